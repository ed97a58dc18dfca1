/- Functions of the program and what they tell, as the printing program wrote it. -/
import Derived.Test.YtbgbblgdbcjibaaPx0
import Derived.Test.YtbgbblgdbcjibaaPx6
import Derived.Test.YtbgbblgdbcjibaaPx11
import Derived.Test.YtbgbblgdbcjibaaPx13
import Derived.Test.YtbgbblgdbcjibaaPx28
namespace Go.Proofs.Ytbgbblgdbcjibaa.P
open Go.Shelf Go.RowKit Go.Proofs.YtbgbblgdbcjibaaW.PrintWords Go.Proofs.YtbgbblgdbcjibaaW.PrintLast Go.Proofs.YtbgbblgdbcjibaaW.PrintMore
attribute [local go_sem] max2_int min2_int max_two min_two max_three min_three max_four min_four
set_option linter.unusedVariables false
set_option linter.unusedSimpArgs false
set_option maxHeartbeats 8000000
set_option maxRecDepth 100000
mutual
def impl_MatrixOfLinear.j0 : Nat → List Int → List Int → Int → Int → Int → Option (Int × List Int × Int)
  | 0, _, _, _, _, _ => none
  | k + 1, x1, x2, x8, x548000, x548001 => if x8 = 0 then ((impl_Field_coordinates.f k x548000 x548001 x1).bind fun t554 => ((impl_Field_values.f k x548000 x548001 x2 x1).bind fun t558 => (impl_MatrixOfLinear.l0 k t554 t558 (t558.length : Int) 0 x548000 ([] : List Int)))) else (some (0, ([] : List Int), x8))
def impl_MatrixOfLinear.l0 : Nat → List Int → List Int → Int → Int → Int → List Int → Option (Int × List Int × Int)
  | 0, _, _, _, _, _, _ => none
  | k + 1, x10, x35, x36, x37, x558000, x558001 => if x37 < x36 then (if 0 ≤ x37 then (if x37 < (x35.length : Int) then (if 0 ≤ (rd x35 x37) then (if (rd x35 x37) < (x10.length : Int) then (if x558001.length < 17592186044416 then (impl_MatrixOfLinear.l0 k x10 x35 x36 (wrap64 (x37 + 1)) x558000 (x558001 ++ [rd x10 (rd x35 x37)])) else (none)) else (none)) else (none)) else (none)) else (none)) else (some (x558000, x558001, 0))
end
def impl_MatrixOfLinear.f (k : Nat) (a0_0 : Int) (a0_1 : Int) (l1 : List Int) (l2 : List Int) : Option (Int × List Int × Int) := (impl_Field_linearCode.f k a0_0 a0_1 (([l2] : List (List Int)))).bind fun t552 => (if t552 = 0 then ((impl_Field_basisCode.f k a0_0 a0_1 l1 ([] : List Int)).bind fun t553 => (impl_MatrixOfLinear.j0 k l1 l2 t553 a0_0 a0_1)) else (impl_MatrixOfLinear.j0 k l1 l2 t552 a0_0 a0_1))
theorem impl_MatrixOfLinear.mono_l : ∀ k, (∀ y0 y1 y2 y3 y4, LeO (impl_MatrixOfLinear.j0 k y0 y1 y2 y3 y4) (impl_MatrixOfLinear.j0 (k + 1) y0 y1 y2 y3 y4)) ∧ (∀ y0 y1 y2 y3 y4 y5, LeO (impl_MatrixOfLinear.l0 k y0 y1 y2 y3 y4 y5) (impl_MatrixOfLinear.l0 (k + 1) y0 y1 y2 y3 y4 y5))
 | 0 => ⟨fun _ _ _ _ _ r h => by simp [impl_MatrixOfLinear.j0] at h, fun _ _ _ _ _ _ r h => by simp [impl_MatrixOfLinear.l0] at h⟩
 | k + 1 => by
  obtain ⟨ih0, ih1⟩ := impl_MatrixOfLinear.mono_l k
  refine ⟨?_, ?_⟩ <;> intros <;> first | unfold impl_MatrixOfLinear.j0 | unfold impl_MatrixOfLinear.l0
  all_goals repeat' first
   | (with_reducible first | apply ih0 | apply ih1 | apply impl_Field_basisCode.mono | apply impl_Field_coordinates.mono | apply impl_Field_linearCode.mono | apply impl_Field_values.mono | exact LeO.refl _ | exact LeO.none _ | refine LeO.ite ?_ ?_ | refine LeO.bind ?_ (fun _ => ?_))
   | exact LeO.none _
   | refine LeO.ite ?_ ?_
   | refine LeO.bind ?_ (fun _ => ?_)
theorem impl_MatrixOfLinear.mono : ∀ a0 a1 a2 a3 k, LeO (impl_MatrixOfLinear.f k a0 a1 a2 a3) (impl_MatrixOfLinear.f (k + 1) a0 a1 a2 a3) := by
 intro a0 a1 a2 a3 k
 obtain ⟨ih0, ih1⟩ := impl_MatrixOfLinear.mono_l k
 unfold impl_MatrixOfLinear.f
 repeat' first
  | (with_reducible first | apply ih0 | apply ih1 | apply impl_Field_basisCode.mono | apply impl_Field_coordinates.mono | apply impl_Field_linearCode.mono | apply impl_Field_values.mono | exact LeO.refl _ | exact LeO.none _ | refine LeO.ite ?_ ?_ | refine LeO.bind ?_ (fun _ => ?_))
  | exact LeO.none _
  | refine LeO.ite ?_ ?_
  | refine LeO.bind ?_ (fun _ => ?_)
def impl_MatrixOfLinear.T6 : Bool × List (List Nat × List Nat) := (true, [([], []), ([0], [0]), ([1], [1]), ([], []), ([], []), ([3, 4], [3, 4]), ([], []), ([6, 2, 5, 0, 1, 2, 6], [2, 6]), ([5, 7, 0, 1, 2, 3, 4, 5, 6, 7], [5])])
def impl_MatrixOfLinear.B6 : List Nat := [0, 1, 3, 0, 0, 24, 0, 127, 255]
theorem impl_MatrixOfLinear.tab6 : rtab .any (opsOf Try.f25 6) = impl_MatrixOfLinear.T6 := by kernel_rfl
theorem impl_MatrixOfLinear.bits6 : waitsOk impl_MatrixOfLinear.T6.2 impl_MatrixOfLinear.B6 = true := by kernel_rfl
def impl_MatrixOfLinear.T10 : Bool × List (List Nat × List Nat) := (true, [([], []), ([0], [0]), ([], []), ([], []), ([2, 3], [2, 3]), ([4], [4]), ([5], [5]), ([1, 6], [1, 6]), ([0, 1, 2, 3, 4, 5, 6, 7], []), ([8, 7, 7, 0, 1, 2, 3, 4, 5, 6, 7], [7, 8])])
def impl_MatrixOfLinear.B10 : List Nat := [0, 1, 0, 0, 12, 28, 60, 127, 255, 511]
theorem impl_MatrixOfLinear.tab10 : rtab .any (opsOf Try.f25 10) = impl_MatrixOfLinear.T10 := by kernel_rfl
theorem impl_MatrixOfLinear.bits10 : waitsOk impl_MatrixOfLinear.T10.2 impl_MatrixOfLinear.B10 = true := by kernel_rfl
theorem impl_MatrixOfLinear.calls (k : Nat) (a0_0 : Int) (a0_1 : Int) (A1 : Option Addr) (c1 : Nat) (l1 : List Int) (P2_ : Nat → Prop) (A2 : Option Addr) (c2 : Nat) (l2 : List Int) (r1 : Int) (r2 : List Int) (r3 : Int) (w : World) (hr1 : Kd.C (Kd.int .i64) w A1 l1.length l1) (hc1 : l1.length ≤ c1) (hs2 : Kd.V (Kd.int .i64) 2 w w.heap.size (fun k_ => P2_ k_) (.slice A2 l2.length c2) l2) (h : impl_MatrixOfLinear.f k a0_0 a0_1 l1 l2 = some (r1, r2, r3)) :
 Calls Try.prog 25 #[.agg #[.int .i64 a0_0, .int .i64 a0_1], .slice A1 l1.length c1, .slice A2 l2.length c2] w fun e w' => ∃ v1_ : Value, e = .returned (.tuple #[.agg #[.int .i64 r1, v1_], .int .i64 r3]) ∧ Kd.R (Kd.int .i64) 2 w' w.heap.size (fun k_ => (w.heap.size ≤ k_)) v1_ r2 ∧ Below w.heap.size w w' := by
 have hu26 := Try.underlying26
 have hu41 := Try.underlying41
 have HR1 := Aq.mk hr1
 have HC1 := Aq.mk hc1
 clear hr1 hc1
 have HO2 := Aq.mk (show Kd.V (Kd.int .i64) 2 w w.heap.size (fun k_ => (P2_ k_ ∨ w.heap.size ≤ k_)) (.slice A2 l2.length c2) l2 from Kd.V_mono hs2 (fun k_ hk => .inl hk))
 have HB := Aq.mk (Below.refl w.heap.size w)
 have H : ((impl_Field_linearCode.f k a0_0 a0_1 (([l2] : List (List Int)))).bind fun t552 => (if t552 = 0 then ((impl_Field_basisCode.f k a0_0 a0_1 l1 ([] : List Int)).bind fun t553 => (impl_MatrixOfLinear.j0 k l1 l2 t553 a0_0 a0_1)) else (impl_MatrixOfLinear.j0 k l1 l2 t552 a0_0 a0_1))) = some (r1, r2, r3) := h
 clear h
 obtain ⟨y549, hy549⟩ : ∃ y_ : List (List Int), y_ = (([l2] : List (List Int))) := ⟨_, rfl⟩
 replace H : ((impl_Field_linearCode.f k a0_0 a0_1 y549).bind fun t552 => (if t552 = 0 then ((impl_Field_basisCode.f k a0_0 a0_1 l1 ([] : List Int)).bind fun t553 => (impl_MatrixOfLinear.j0 k l1 l2 t553 a0_0 a0_1)) else (impl_MatrixOfLinear.j0 k l1 l2 t552 a0_0 a0_1))) = some (r1, r2, r3) := by first | (rw [hy549]; with_reducible exact H) | (have H2_ := (Option.bind_some _ _).symm.trans H; rw [hy549]; with_reducible exact H2_) | (have H2_ := (Option.bind_some _ _).symm.trans H; with_reducible exact H2_) | with_reducible exact H | (rw [hy549]; exact H) | exact H
 have Ny549 := Aq.mk hy549
 clear hy549
 obtain ⟨t552, A4, H⟩ := qBd H
 have HC5 := Aq.mk H
 clear H
 go_enter Try.func25, Try.ntmps25
 go_upto_if 18 with (first | ((with_reducible refine gQd (N := 3) rfl ?_); refine xQe ?hg (N := 3) ?hd (cs := #[.int .i64 a0_0, .int .i64 a0_1]) (t := 26) ?hr ?_; (case hd => rfl); (case hg => rfl); (case hr => exact tH); intro gb547 hg w6 hbox hb; refine qM5 (Kd.V_below (Kd.V_elderB (by (with_reducible repeat (first | apply Kd.V_alloc | apply Kd.V_drewN | apply Kd.V_drew)); exact HO2.out) gb547 (Nat.le_of_eq hg.symm)) hb) (bQT tB hb) hbox (tZ w hg) (tZ w hg) ?_; clear HO2 HB; intro HO2 HB BK547 GW547 GE547; clear hb hbox hg) | ((with_reducible refine gQd (N := 6) rfl ?_); refine xQe ?hg (N := 6) ?hd (cs := #[.int .i64 0, .slice none 0 0]) (t := 41) ?hr ?_; (case hd => rfl); (case hg => rfl); (case hr => exact tH); intro gb548 hg w7 hbox hb; refine qM8 (Kd.V_below (Kd.V_elderB (by (with_reducible repeat (first | apply Kd.V_alloc | apply Kd.V_drewN | apply Kd.V_drew)); exact HO2.out) gb548 (Nat.le_of_eq hg.symm)) hb) (tQ BK547.out hb) (bQT tB hb) hbox (tZ w hg) (tZ w hg) ((by rw [hg]; exact Nat.ne_of_lt (blk_lt (g := gb547) (o := .cells #[.int .i64 a0_0, .int .i64 a0_1] 26 (0, 0)) (tG BK547.out)) : gb547 ≠ gb548)) ((by rw [hg]; exact Nat.ne_of_gt (blk_lt (g := gb547) (o := .cells #[.int .i64 a0_0, .int .i64 a0_1] 26 (0, 0)) (tG BK547.out)) : gb548 ≠ gb547)) ?_; clear HO2 BK547 HB; intro HO2 BK547 HB BK548 GW548 GE548 NB547_548 NB548_547; clear hb hbox hg; have hnb8 := NB547_548.out; have hnc8 := NB548_547.out; have hcz9_0 : w7.cell? ⟨gb547, 0, none⟩ = some (.int .i64 a0_0) := (kQC BK547.out 0).trans rfl; have hcz9_1 : w7.cell? ⟨gb547, 1, none⟩ = some (.int .i64 a0_1) := (kQC BK547.out 1).trans rfl; have hfz9_0 := kQF BK547.out 0; have hfz9_1 := kQF BK547.out 1) | ((with_reducible refine gQd (N := 15) rfl ?_); refine Kd.N_lit (Kd.slice 2 (Kd.int .i64)) _ 29 ?hg (N' := 15) ?hd (xs := ([l2] : List (List Int))) (inner := [.slice A2 l2.length c2]) (ok := (fun k_ => (P2_ k_ ∨ w.heap.size ≤ k_) ∧ k_ ≠ gb547 ∧ k_ ≠ gb548)) (okp := (fun k_ => (P2_ k_ ∨ w.heap.size ≤ k_) ∧ k_ ≠ gb547 ∧ k_ ≠ gb548)) ?hr ?hp (fun _ hk => hk) ((show ∀ k_, w7.heap.size ≤ k_ → (fun k_ => (P2_ k_ ∨ w.heap.size ≤ k_) ∧ k_ ≠ gb547 ∧ k_ ≠ gb548) k_ from fun k_ hk => ⟨(.inr (Nat.le_trans (bQZ tB) hk)), Kd.freshB (g := gb547) (o := .cells #[.int .i64 a0_0, .int .i64 a0_1] 26 (0, 0)) (tG BK547.out) k_ hk, Kd.freshB (g := gb548) (o := .cells #[.int .i64 0, .slice none 0 0] 41 (0, 0)) (tG BK548.out) k_ hk⟩) _ (Nat.le_refl _)) (Below.refl _ _) (Nat.le_refl _) (by simp) ?_; (case hd => rfl); (case hg => rfl); (case hr => exact tH); (case hp => exact (Reps.one (show Kd.FK (Kd.slice 2 (Kd.int .i64)) _ _ l2 [.slice A2 l2.length c2] from (Kd.FK_slice_mk (Kd.V_reads' (Kd.V_mono (ok' := (fun k_ => (P2_ k_ ∨ w.heap.size ≤ k_) ∧ k_ ≠ gb547 ∧ k_ ≠ gb548)) (HO2.out) (fun k_ hk => ⟨hk.1.1, ⟨hk.1.2, hk.2⟩⟩))).2.1 (Kd.V_F (Kd.V_mono (ok' := (fun k_ => (P2_ k_ ∨ w.heap.size ≤ k_) ∧ k_ ≠ gb547 ∧ k_ ≠ gb548)) (HO2.out) (fun k_ hk => ⟨hk.1.1, ⟨hk.1.2, hk.2⟩⟩))))) (Reps.none _ _))); intro v550 w10 ho11 hb hg_ hnew_; clear hg_ hnew_; (first | rw [← Ny549.out] at ho11 | (simp only [Int.reduceToNat] at ho11; rw [← Ny549.out] at ho11)); refine qM5 (Kd.V_elder' (by (with_reducible repeat (first | apply Kd.V_alloc | apply Kd.V_drewN | apply Kd.V_drew)); exact HO2.out) (Kd.N_base ho11) hb) (Kd.N_lower ho11 (bQZ tB)) (tQ BK547.out hb) (tQ BK548.out hb) (bQT tB hb) ?_; clear HO2 BK547 BK548 HB; intro HO2 HO551 BK547 BK548 HB; clear hb ho11; obtain ⟨Ao12, co12, eo12⟩ := Kd.N_slice HO551.out; subst eo12) | ((with_reducible refine gQc (f := 55) rfl ?_); refine goesL_ (some 16) rfl rfl Try.func55 (by kernel_rfl) rfl #[.agg #[.int .i64 a0_0, .int .i64 a0_1], .slice Ao12 y549.length co12] rfl tL ?_; (with_reducible refine (impl_Field_linearCode.calls k a0_0 a0_1 _ _ y549 t552 _ ?s1 ?s2 A4.out).mono ?_); (case s1 => exact tC ((Kd.N_reads' HO551.out).2.2)); (case s2 => exact (Kd.N_reads' HO551.out).2.1); rintro e w13 ⟨rfl, hb⟩; refine ⟨_, rfl, ?_⟩; refine qM5 (Kd.V_below (by (with_reducible repeat (first | apply Kd.V_alloc | apply Kd.V_drewN | apply Kd.V_drew)); exact HO2.out) hb) (Kd.N_below (by (with_reducible repeat (first | apply Kd.N_alloc | apply Kd.N_drewN | apply Kd.N_drew)); exact HO551.out) hb) (tQ BK547.out hb) (tQ BK548.out hb) (bQT tB hb) ?_; clear HO2 HO551 BK547 BK548 HB; intro HO2 HO551 BK547 BK548 HB; (try clear hb); (try clear hb2); (try clear hk); (try clear hi)))
 (try simp only [Act.put, qSa, qSb, qSc])
 go_cut [8] (fun v8 wc => ∃ (kq : Nat) (x8_4 : Int), v8 = .int .i64 x8_4 ∧ Aq (impl_MatrixOfLinear.j0 kq l1 l2 x8_4 a0_0 a0_1 = some (r1, r2, r3)) ∧ Aq (kq ≤ k) ∧ Aq (Kd.V (Kd.int .i64) 2 wc w.heap.size (fun k_ => (P2_ k_ ∨ w.heap.size ≤ k_) ∧ k_ ≠ gb547 ∧ k_ ≠ gb548) (.slice A2 l2.length c2) l2) ∧ Aq (wc.heap[gb547]? = some (.cells #[.int .i64 a0_0, .int .i64 a0_1] 26 (0, 0))) ∧ Aq (wc.heap[gb548]? = some (.cells #[.int .i64 0, (.slice none 0 0)] 41 (0, 0))) ∧ Aq (Below w.heap.size w wc))
 case first =>
  have H := HC5.out
  clear HC5
  by_cases c14 : t552 = 0
  rotate_left
  ·rw [if_neg c14] at H
   have c14b0 := beq_eq_false_iff_ne.mpr c14
   have c14b1 := bne_iff_ne.mpr c14
   (first | rw [c14b0] | (simp only [i64_w, i32_w]; rw [c14b0]) | skip)
   replace H' := Aq.mk H
   clear H
   go_wp2
   go_meet
   case rel => exact ⟨_, (t552), tS, H', ⟨tO⟩, ⟨by (with_reducible repeat (first | apply Kd.V_alloc | apply Kd.V_drewN | apply Kd.V_drew)); exact Kd.V_mono HO2.out (fun _ hk => ⟨hk.1.1.1, ⟨hk.1.1.2, hk.1.2⟩⟩)⟩, ⟨tG BK547.out⟩, ⟨tG BK548.out⟩, ⟨tB⟩⟩
  rw [if_pos c14] at H
  have c14b0 := beq_iff_eq.mpr c14
  have c14b1 := bne_eq_false_iff_eq.mpr c14
  clear c14
  (first | rw [c14b0] | (simp only [i64_w, i32_w]; rw [c14b0]) | skip)
  obtain ⟨t553, A15, H⟩ := qBd H
  replace H' := Aq.mk H
  clear H
  have hnb16 := NB547_548.out
  have hnc16 := NB548_547.out
  have hcz17_0 : w13.cell? ⟨gb547, 0, none⟩ = some (.int .i64 a0_0) := (kQC BK547.out 0).trans rfl
  have hcz17_1 : w13.cell? ⟨gb547, 1, none⟩ = some (.int .i64 a0_1) := (kQC BK547.out 1).trans rfl
  have hfz17_0 := kQF BK547.out 0
  have hfz17_1 := kQF BK547.out 1
  go_wp2_with (first | ((with_reducible refine gQc (f := 46) rfl ?_); refine goesL_ (some 21) rfl rfl Try.func46 (by kernel_rfl) rfl #[.agg #[.int .i64 a0_0, .int .i64 a0_1], .slice A1 l1.length c1, .slice none 0 0] rfl tL ?_; (refine (impl_Field_basisCode.calls k a0_0 a0_1 _ _ l1 _ _ ([] : List Int) t553 _ ?s1 ?s2 ?s3 ?s4 A15.out).mono ?_); (case s1 => exact tC ((Kd.C_below HR1.out HB.out))); (case s2 => exact HC1.out); (case s3 => exact Kd.C_nil _ _); (case s4 => exact Nat.le_refl _); rintro e w18 ⟨rfl, hb⟩; refine ⟨_, rfl, ?_⟩; refine qM5 (Kd.V_below (by (with_reducible repeat (first | apply Kd.V_alloc | apply Kd.V_drewN | apply Kd.V_drew)); exact HO2.out) hb) (Kd.N_below (by (with_reducible repeat (first | apply Kd.N_alloc | apply Kd.N_drewN | apply Kd.N_drew)); exact HO551.out) hb) (tQ BK547.out hb) (tQ BK548.out hb) (bQT tB hb) ?_; clear HO2 HO551 BK547 BK548 HB; intro HO2 HO551 BK547 BK548 HB; (try clear hb); (try clear hb2); (try clear hk); (try clear hi)))
  go_meet
  case rel => exact ⟨_, (t553), tS, H', ⟨tO⟩, ⟨by (with_reducible repeat (first | apply Kd.V_alloc | apply Kd.V_drewN | apply Kd.V_drew)); exact Kd.V_mono HO2.out (fun _ hk => ⟨hk.1.1.1, ⟨hk.1.1.2, hk.1.2⟩⟩)⟩, ⟨tG BK547.out⟩, ⟨tG BK548.out⟩, ⟨tB⟩⟩
 clear HC5
 try clear c1
 try clear c2
 try clear c14
 try clear c14b0
 try clear c14b1
 try clear hcz17_0
 try clear hcz17_1
 try clear hcz9_0
 try clear hcz9_1
 try clear hfz17_0
 try clear hfz17_1
 try clear hfz9_0
 try clear hfz9_1
 obtain ⟨kq, x8_4, rfl, HA, HJ4, HO_2, BK547, BK548, HB⟩ := hcut
 cases kq with
 | zero => exact absurd HA.out (by simp [impl_MatrixOfLinear.j0])
 | succ kj4 =>
  have H := HA.out
  clear HA
  simp only [impl_MatrixOfLinear.j0] at H
  by_cases c19 : x8_4 = 0
  rotate_left
  ·rw [if_neg c19] at H
   have c19b0 := beq_eq_false_iff_ne.mpr c19
   have c19b1 := bne_iff_ne.mpr c19
   simp only [Option.some.injEq, Prod.mk.injEq] at H
   obtain ⟨rfl, rfl, rfl⟩ := H
   have hnb50 := NB548_547.out
   have hnc50 := NB547_548.out
   have hcz51_0 : wc.cell? ⟨gb548, 0, none⟩ = some (.int .i64 0) := (kQC BK548.out 0).trans rfl
   have hcz51_1 : wc.cell? ⟨gb548, 1, none⟩ = some (.slice none 0 0) := (kQC BK548.out 1).trans rfl
   have hfz51_0 := kQF BK548.out 0
   have hfz51_1 := kQF BK548.out 1
   go_wp2
   refine bodyPost_ret (results_ct rfl _ _ gb548 41 #[.int .i64 0, .slice none 0 0] (0, 0) _ rfl (by (with_reducible repeat (first | refine kQN ?_ _ | refine kQD ?_ | refine kQA ?_ _)); refine kQP (cs := #[.int .i64 0, .slice none 0 0]) ?_ 1 _ rfl; (with_reducible repeat (first | refine kQN ?_ _ | refine kQD ?_ | refine kQA ?_ _)); refine kQP (cs := #[.int .i64 0, .slice none 0 0]) ?_ 0 _ rfl; (with_reducible repeat (first | refine kQN ?_ _ | refine kQD ?_ | refine kQA ?_ _)); exact BK548.out) Try.underlying41 rfl (by kernel_rfl)) rfl ?_
   exact ⟨_, tE, by first | exact Kd.R_nil _ _ _ _ _ | exact Kd.N_nil _ _ _ _ _ | exact Kd.V_nil _ _ _ _ _ | exact Kd.Q_nil _ _ _ _ _ | exact Kd.S_nil _ _ _ _ _, tB⟩
  rw [if_pos c19] at H
  have c19b0 := beq_iff_eq.mpr c19
  have c19b1 := bne_eq_false_iff_eq.mpr c19
  clear c19
  obtain ⟨t554, A20, H⟩ := qBd H
  obtain ⟨t558, A21, H⟩ := qBd H
  replace H' := Aq.mk H
  clear H
  try go_wp2
  have n0_ := Aq.mk (Kd.V_drew HO_2.out)
  have n1_ := Aq.mk (kQD BK547.out)
  have n2_ := Aq.mk (kQD BK548.out)
  have n3_ := Aq.mk (bQ1 HB.out)
  clear HO_2
  clear BK547
  clear BK548
  clear HB
  have HO_2 := n0_
  have BK547 := n1_
  have BK548 := n2_
  have HB := n3_
  clear n0_ n1_ n2_ n3_
  refine start_ (n := 9) (S := fun w' => w'.cell? ⟨gb547, 0, none⟩ = some (.int .i64 a0_0) ∧ w'.cell? ⟨gb547, 1, none⟩ = some (.int .i64 a0_1)) (ds := []) #[false, false, false, false, false, false, false, false, false] (by kernel_rfl) rfl rfl ⟨(kQC BK547.out 0).trans rfl, (kQC BK547.out 1).trans rfl⟩ (fun hHeld => ?_); refine with_tabW impl_MatrixOfLinear.tab6 impl_MatrixOfLinear.bits6 (fun HT_ HW_ => ?_)
  generalize wc.drew = w22 at HO_2 BK547 BK548 HB hHeld ⊢
  refine tP0 0 26 (bm 9 1) ?_
  refine tP0 4 30 (bm 9 17) ?_
  refine tT2 1 27 (bm 9 19) ?_
  refine tP0 2 28 (bm 9 23) ?_
  refine tT2 3 29 (bm 9 31) ?_
  refine join_ (σ := Value × Nat) 2 #[true, true, true, true, true, true, true, false, false] (fun s_ => [(31, s_.1), (9, .pointer (some ⟨s_.2, 0, none⟩))]) (fun s_ w' => (w'.cell? ⟨gb547, 0, none⟩ = some (.int .i64 a0_0) ∧ w'.cell? ⟨gb547, 1, none⟩ = some (.int .i64 a0_1)) ∧ (Kd.R (Kd.int .i64) 2 w' w.heap.size (fun k_ => (w.heap.size ≤ k_)) s_.1 t554) ∧ (Kd.V (Kd.int .i64) 2 w' w.heap.size (fun k_ => (P2_ k_ ∨ w.heap.size ≤ k_) ∧ some k_ ≠ (s_.1 : Value).ownBlock ∧ k_ ≠ gb547 ∧ k_ ≠ gb548 ∧ k_ ≠ s_.2) (.slice A2 l2.length c2) l2) ∧ (w'.heap[gb547]? = some (.cells #[.int .i64 a0_0, .int .i64 a0_1] 26 (0, 0))) ∧ (w'.heap[gb548]? = some (.cells #[.int .i64 0, .slice none 0 0] 41 (0, 0))) ∧ (w'.heap[s_.2]? = some (.cells #[.int .i64 0, .slice none 0 0] 41 (0, 0))) ∧ (w.heap.size ≤ s_.2) ∧ (w.heap.size ≤ s_.2) ∧ (gb547 ≠ s_.2) ∧ (s_.2 ≠ gb547) ∧ (gb548 ≠ s_.2) ∧ (s_.2 ≠ gb548) ∧ (Below w.heap.size w w')) ?_ ?_
  rotate_left
  ·intro hCont
   refine two_ (i := 5) (j := 6) (Ni := some 31) (Nj := some 9) #[true, true, true, true, true, true, false, false, false] #[true, true, true, true, true, false, true, false, false] rfl rfl rfl rfl (two_of HT_.out (by kernel_rfl)) (by decide) (by decide) (fun K hK => ?_) (fun K hK => ?_)
   ·skip
    refine goes_ Try.func33 (by kernel_rfl) rfl #[.agg #[.int .i64 a0_0, .int .i64 a0_1], .slice A1 l1.length c1] (by rfl) rfl rfl tL ?_
    with_reducible refine (impl_Field_coordinates.calls kj4 a0_0 a0_1 _ _ l1 t554 _ ?s1 ?s2 A20.out).mono ?_
    (case s1 => exact tC ((Kd.C_below HR1.out HB.out)))
    (case s2 => exact HC1.out)
    rintro e w23 ⟨v555, rfl, ho0, hb⟩
    refine ⟨_, rfl, ?_⟩
    have n0_ := Aq.mk (Kd.V_elder' (by (with_reducible repeat (first | apply Kd.V_alloc | apply Kd.V_drewN | apply Kd.V_drew)); exact HO_2.out) (Kd.R_base ho0) hb)
    have n1_ := Aq.mk (Kd.R_lower (Kd.R_newM (M := fun k_ => (w.heap.size ≤ k_)) ho0 (bQZ tB) (fun k_ h_ => h_)) (bQZ tB))
    have n2_ := Aq.mk (tQ BK547.out hb)
    have n3_ := Aq.mk (tQ BK548.out hb)
    have n4_ := Aq.mk (bQT tB hb)
    clear HO_2
    clear BK547
    clear BK548
    clear HB
    have HO_2 := n0_
    have HO556 := n1_
    have BK547 := n2_
    have BK548 := n3_
    have HB := n4_
    clear n0_ n1_ n2_ n3_ n4_
    (try clear hb)
    (try clear hb2)
    (try clear hk)
    (try clear hi)
    (try clear ho0)
    refine hK.out _ _ ⟨(kQC BK547.out 0).trans rfl, (kQC BK547.out 1).trans rfl⟩ (fun hHeld => ?_)
    clear hK K
    refine tN 31 ?_
    refine one_ (i := 6) (N := some 9) (bm 9 127) rfl rfl (one_of HT_.out (by kernel_rfl)) (by decide) (fun K hK => ?_)
    refine box_step ?hg (N := 9) ?hd (cs := #[.int .i64 0, .slice none 0 0]) (t := 41) ?hr ?_; (case hd => rfl); (case hg => rfl); (case hr => exact tH)
    intro gb557 hg w24 hbox hb
    have n0_ := Aq.mk (Kd.V_below (Kd.V_elderB (by (with_reducible repeat (first | apply Kd.V_alloc | apply Kd.V_drewN | apply Kd.V_drew)); exact HO_2.out) gb557 (Nat.le_of_eq hg.symm)) hb)
    have n1_ := Aq.mk (Kd.R_below (tR HO556.out) hb)
    have n2_ := Aq.mk (tQ BK547.out hb)
    have n3_ := Aq.mk (tQ BK548.out hb)
    have n4_ := Aq.mk (bQT tB hb)
    have n5_ := Aq.mk (hbox)
    have n6_ := Aq.mk (tZ w hg)
    have n7_ := Aq.mk (tZ w hg)
    have n8_ := Aq.mk ((by rw [hg]; exact Nat.ne_of_lt (blk_lt (g := gb547) (o := .cells #[.int .i64 a0_0, .int .i64 a0_1] 26 (0, 0)) (tG BK547.out)) : gb547 ≠ gb557))
    have n9_ := Aq.mk ((by rw [hg]; exact Nat.ne_of_gt (blk_lt (g := gb547) (o := .cells #[.int .i64 a0_0, .int .i64 a0_1] 26 (0, 0)) (tG BK547.out)) : gb557 ≠ gb547))
    have n10_ := Aq.mk ((by rw [hg]; exact Nat.ne_of_lt (blk_lt (g := gb548) (o := .cells #[.int .i64 0, .slice none 0 0] 41 (0, 0)) (tG BK548.out)) : gb548 ≠ gb557))
    have n11_ := Aq.mk ((by rw [hg]; exact Nat.ne_of_gt (blk_lt (g := gb548) (o := .cells #[.int .i64 0, .slice none 0 0] 41 (0, 0)) (tG BK548.out)) : gb557 ≠ gb548))
    clear HO_2
    clear HO556
    clear BK547
    clear BK548
    clear HB
    have HO_2 := n0_
    have HO556 := n1_
    have BK547 := n2_
    have BK548 := n3_
    have HB := n4_
    have BK557 := n5_
    have GW557 := n6_
    have GE557 := n7_
    have NB547_557 := n8_
    have NB557_547 := n9_
    have NB548_557 := n10_
    have NB557_548 := n11_
    clear n0_ n1_ n2_ n3_ n4_ n5_ n6_ n7_ n8_ n9_ n10_ n11_
    clear hb hbox hg
    refine hK.out _ _ ⟨(kQC BK547.out 0).trans rfl, (kQC BK547.out 1).trans rfl⟩ (fun hHeld => ?_)
    clear hK K
    refine tN 9 ?_
    exact norm_ (by simp only [putAll, Act.put, qSa, qSb, qSc]) (hCont (v555, gb557) _ ⟨hHeld, (by (with_reducible repeat (first | apply Kd.RqA | apply Kd.RqN | apply Kd.RqD)); exact Kd.R_mono HO556.out (fun _ hk => hk.1)), (by (with_reducible repeat (first | apply Kd.V_alloc | apply Kd.V_drewN | apply Kd.V_drew)); exact Kd.V_mono HO_2.out (fun _ hk => ⟨hk.1.1.1, ⟨hk.1.2, ⟨hk.1.1.2.1, ⟨hk.1.1.2.2, hk.2⟩⟩⟩⟩)), (tG BK547.out), (tG BK548.out), (tG BK557.out), GW557.out, GE557.out, NB547_557.out, NB557_547.out, NB548_557.out, NB557_548.out, tB⟩)
   skip
   refine box_step ?hg (N := 9) ?hd (cs := #[.int .i64 0, .slice none 0 0]) (t := 41) ?hr ?_; (case hd => rfl); (case hg => rfl); (case hr => exact tH)
   intro gb557 hg w23 hbox hb
   have n0_ := Aq.mk (Kd.V_below (Kd.V_elderB (by (with_reducible repeat (first | apply Kd.V_alloc | apply Kd.V_drewN | apply Kd.V_drew)); exact HO_2.out) gb557 (Nat.le_of_eq hg.symm)) hb)
   have n1_ := Aq.mk (tQ BK547.out hb)
   have n2_ := Aq.mk (tQ BK548.out hb)
   have n3_ := Aq.mk (bQT tB hb)
   have n4_ := Aq.mk (hbox)
   have n5_ := Aq.mk (tZ w hg)
   have n6_ := Aq.mk (tZ w hg)
   have n7_ := Aq.mk ((by rw [hg]; exact Nat.ne_of_lt (blk_lt (g := gb547) (o := .cells #[.int .i64 a0_0, .int .i64 a0_1] 26 (0, 0)) (tG BK547.out)) : gb547 ≠ gb557))
   have n8_ := Aq.mk ((by rw [hg]; exact Nat.ne_of_gt (blk_lt (g := gb547) (o := .cells #[.int .i64 a0_0, .int .i64 a0_1] 26 (0, 0)) (tG BK547.out)) : gb557 ≠ gb547))
   have n9_ := Aq.mk ((by rw [hg]; exact Nat.ne_of_lt (blk_lt (g := gb548) (o := .cells #[.int .i64 0, .slice none 0 0] 41 (0, 0)) (tG BK548.out)) : gb548 ≠ gb557))
   have n10_ := Aq.mk ((by rw [hg]; exact Nat.ne_of_gt (blk_lt (g := gb548) (o := .cells #[.int .i64 0, .slice none 0 0] 41 (0, 0)) (tG BK548.out)) : gb557 ≠ gb548))
   clear HO_2
   clear BK547
   clear BK548
   clear HB
   have HO_2 := n0_
   have BK547 := n1_
   have BK548 := n2_
   have HB := n3_
   have BK557 := n4_
   have GW557 := n5_
   have GE557 := n6_
   have NB547_557 := n7_
   have NB557_547 := n8_
   have NB548_557 := n9_
   have NB557_548 := n10_
   clear n0_ n1_ n2_ n3_ n4_ n5_ n6_ n7_ n8_ n9_ n10_
   clear hb hbox hg
   refine hK.out _ _ ⟨(kQC BK547.out 0).trans rfl, (kQC BK547.out 1).trans rfl⟩ (fun hHeld => ?_)
   clear hK K
   refine tN 9 ?_
   refine one_ (i := 5) (N := some 31) (bm 9 127) rfl rfl (one_of HT_.out (by kernel_rfl)) (by decide) (fun K hK => ?_)
   refine goes_ Try.func33 (by kernel_rfl) rfl #[.agg #[.int .i64 a0_0, .int .i64 a0_1], .slice A1 l1.length c1] (by rfl) rfl rfl tL ?_
   with_reducible refine (impl_Field_coordinates.calls kj4 a0_0 a0_1 _ _ l1 t554 _ ?s1 ?s2 A20.out).mono ?_
   (case s1 => exact tC ((Kd.C_below HR1.out HB.out)))
   (case s2 => exact HC1.out)
   rintro e w24 ⟨v555, rfl, ho0, hb⟩
   refine ⟨_, rfl, ?_⟩
   have n0_ := Aq.mk (Kd.V_elder' (by (with_reducible repeat (first | apply Kd.V_alloc | apply Kd.V_drewN | apply Kd.V_drew)); exact HO_2.out) (Kd.R_base ho0) hb)
   have n1_ := Aq.mk (Kd.R_lower (Kd.R_newM (M := fun k_ => (w.heap.size ≤ k_)) ho0 (bQZ tB) (fun k_ h_ => h_)) (bQZ tB))
   have n2_ := Aq.mk (tQ BK547.out hb)
   have n3_ := Aq.mk (tQ BK548.out hb)
   have n4_ := Aq.mk (tQ BK557.out hb)
   have n5_ := Aq.mk (bQT tB hb)
   clear HO_2
   clear BK547
   clear BK548
   clear BK557
   clear HB
   have HO_2 := n0_
   have HO556 := n1_
   have BK547 := n2_
   have BK548 := n3_
   have BK557 := n4_
   have HB := n5_
   clear n0_ n1_ n2_ n3_ n4_ n5_
   (try clear hb)
   (try clear hb2)
   (try clear hk)
   (try clear hi)
   (try clear ho0)
   refine hK.out _ _ ⟨(kQC BK547.out 0).trans rfl, (kQC BK547.out 1).trans rfl⟩ (fun hHeld => ?_)
   clear hK K
   refine tN 31 ?_
   exact norm_ (by simp only [putAll, Act.put, qSa, qSb, qSc]) (hCont (v555, gb557) _ ⟨hHeld, (by (with_reducible repeat (first | apply Kd.RqA | apply Kd.RqN | apply Kd.RqD)); exact Kd.R_mono HO556.out (fun _ hk => hk.1)), (by (with_reducible repeat (first | apply Kd.V_alloc | apply Kd.V_drewN | apply Kd.V_drew)); exact Kd.V_mono HO_2.out (fun _ hk => ⟨hk.1.1.1, ⟨hk.2, ⟨hk.1.1.2.1, ⟨hk.1.1.2.2, hk.1.2⟩⟩⟩⟩)), (tG BK547.out), (tG BK548.out), (tG BK557.out), GW557.out, GE557.out, NB547_557.out, NB557_547.out, NB548_557.out, NB557_548.out, tB⟩)
  rintro ⟨v555, gb557⟩ w25 ⟨hS_, h0_, h1_, h2_, h3_, h4_, h5_, h6_, h7_, h8_, h9_, h10_, h11_⟩
  have n0_ : Aq (Kd.R (Kd.int .i64) 2 w25 w.heap.size (fun k_ => (w.heap.size ≤ k_)) v555 t554) := ⟨h0_⟩
  have n1_ : Aq (Kd.V (Kd.int .i64) 2 w25 w.heap.size (fun k_ => (P2_ k_ ∨ w.heap.size ≤ k_) ∧ some k_ ≠ (v555 : Value).ownBlock ∧ k_ ≠ gb547 ∧ k_ ≠ gb548 ∧ k_ ≠ gb557) (.slice A2 l2.length c2) l2) := ⟨h1_⟩
  have n2_ : Aq (w25.heap[gb547]? = some (.cells #[.int .i64 a0_0, .int .i64 a0_1] 26 (0, 0))) := ⟨h2_⟩
  have n3_ : Aq (w25.heap[gb548]? = some (.cells #[.int .i64 0, .slice none 0 0] 41 (0, 0))) := ⟨h3_⟩
  have n4_ : Aq (w25.heap[gb557]? = some (.cells #[.int .i64 0, .slice none 0 0] 41 (0, 0))) := ⟨h4_⟩
  have n5_ : Aq (w.heap.size ≤ gb557) := ⟨h5_⟩
  have n6_ : Aq (w.heap.size ≤ gb557) := ⟨h6_⟩
  have n7_ : Aq (gb547 ≠ gb557) := ⟨h7_⟩
  have n8_ : Aq (gb557 ≠ gb547) := ⟨h8_⟩
  have n9_ : Aq (gb548 ≠ gb557) := ⟨h9_⟩
  have n10_ : Aq (gb557 ≠ gb548) := ⟨h10_⟩
  have n11_ : Aq (Below w.heap.size w w25) := ⟨h11_⟩
  clear HO_2
  clear BK547
  clear BK548
  clear HB
  clear h0_ h1_ h2_ h3_ h4_ h5_ h6_ h7_ h8_ h9_ h10_ h11_
  have HO556 := n0_
  have HO_2 := n1_
  have BK547 := n2_
  have BK548 := n3_
  have BK557 := n4_
  have GW557 := n5_
  have GE557 := n6_
  have NB547_557 := n7_
  have NB557_547 := n8_
  have NB548_557 := n9_
  have NB557_548 := n10_
  have HB := n11_
  clear n0_ n1_ n2_ n3_ n4_ n5_ n6_ n7_ n8_ n9_ n10_ n11_
  have hHeld : w25.cell? ⟨gb547, 0, none⟩ = some (.int .i64 a0_0) ∧ w25.cell? ⟨gb547, 1, none⟩ = some (.int .i64 a0_1) := hS_
  refine norm_ (a' := ?_) ?_ ?_
  rotate_left
  ·simp only [putAll, Act.put, qSa, qSb, qSc]
   rfl
  refine one_ (i := 7) (N := none) #[true, true, true, true, true, true, true, true, false] rfl rfl (one_of HT_.out (by kernel_rfl)) (by decide) (fun K hK => ?_)
  have hs26 : w25.cell? ⟨gb557, 0, none⟩ = some (.int .i64 0) := (kQC BK557.out 0).trans rfl
  have hfs26 := kQF BK557.out 0
  have hns26_0 := NB547_557.out
  have hns26_1 := NB548_557.out
  have hms26_0 := NB557_547.out
  have hms26_1 := NB557_548.out
  have hs27 : w25.cell? ⟨gb557, 1, none⟩ = some (.slice none 0 0) := (kQC BK557.out 1).trans rfl
  have hfs27 := kQF BK557.out 1
  have hns27_0 := NB547_557.out
  have hns27_1 := NB548_557.out
  have hms27_0 := NB557_547.out
  have hms27_1 := NB557_548.out
  refine skip_ (w1 := ?_) (by rfl) rfl ?_ ?_
  rotate_left
  ·go_simp
   rfl
  refine hK.out _ _ ⟨((cell_far (p := ⟨gb557, _, none⟩) NB547_557.out _).trans (((cell_far (p := ⟨gb557, _, none⟩) NB547_557.out _).trans (hHeld.1)))), ((cell_far (p := ⟨gb557, _, none⟩) NB547_557.out _).trans (((cell_far (p := ⟨gb557, _, none⟩) NB547_557.out _).trans (hHeld.2))))⟩ (fun hHeld => ?_)
  clear hK K
  refine tP0 8 10 (bm 9 511) ?_
  refine done_ (done_of HT_.out (by kernel_rfl)) ?_
  have hnb28 := NB547_548.out
  have hnc28 := NB548_547.out
  have hnb29 := NB547_557.out
  have hnc29 := NB557_547.out
  have hcz30_0 : w25.cell? ⟨gb547, 0, none⟩ = some (.int .i64 a0_0) := (kQC BK547.out 0).trans rfl
  have hcz30_1 : w25.cell? ⟨gb547, 1, none⟩ = some (.int .i64 a0_1) := (kQC BK547.out 1).trans rfl
  have hfz30_0 := kQF BK547.out 0
  have hfz30_1 := kQF BK547.out 1
  try go_wp2_with (first | ((with_reducible refine gQc (f := 60) rfl ?_); refine goesL_ (some 35) rfl rfl Try.func60 (by kernel_rfl) rfl #[.agg #[.int .i64 a0_0, .int .i64 a0_1], .slice A2 l2.length c2, .slice A1 l1.length c1] rfl tL ?_; (with_reducible refine (impl_Field_values.calls kj4 a0_0 a0_1 _ _ l2 _ _ l1 t558 _ ?s1 ?s2 ?s3 ?s4 A21.out).mono ?_); (case s1 => refine (Kd.V_reads' (e := 2) (base := w.heap.size) (ok := fun k_ => ((P2_ k_ ∨ w.heap.size ≤ k_) ∧ (some k_ ≠ (v555 : Value).ownBlock ∧ (k_ ≠ gb547 ∧ (k_ ≠ gb548 ∧ k_ ≠ gb557))))) (n := l2.length) (c := c2) ?_).2.2; exact (by (with_reducible repeat (first | apply Kd.V_alloc | apply Kd.V_drewN | apply Kd.V_drew)); exact (Kd.V_mono (Kd.V_far (p := ⟨gb557, 1, none⟩) (Kd.V_far (p := ⟨gb557, 0, none⟩) (Kd.V_mono HO_2.out (fun k_ hk => (⟨hk, hk.2.2.2.2⟩ : _ ∧ k_ ≠ gb557))) (fun _ hk => hk.2) (.int .i64 a0_0)) (fun _ hk => hk.2) (.slice none 0 0)) (fun _ h_ => h_.1)))); (case s2 => exact (Kd.V_reads' HO_2.out).2.1); (case s3 => exact Kd.C_below HR1.out tB); (case s4 => exact HC1.out); rintro e w31 ⟨v559, rfl, ho0, hb⟩; refine ⟨_, rfl, ?_⟩; refine qM7 (Kd.V_elder' (by (with_reducible repeat (first | apply Kd.V_alloc | apply Kd.V_drewN | apply Kd.V_drew)); exact (Kd.V_mono (Kd.V_far (p := ⟨gb557, 1, none⟩) (Kd.V_far (p := ⟨gb557, 0, none⟩) (Kd.V_mono HO_2.out (fun k_ hk => (⟨hk, hk.2.2.2.2⟩ : _ ∧ k_ ≠ gb557))) (fun _ hk => hk.2) (.int .i64 a0_0)) (fun _ hk => hk.2) (.slice none 0 0)) (fun _ h_ => h_.1))) (Kd.R_base ho0) hb) (Kd.R_elder' (by (with_reducible repeat (first | apply Kd.RqA | apply Kd.RqN | apply Kd.RqD)); exact (Kd.R_mono (Kd.R_far (p := ⟨gb557, 1, none⟩) (Kd.R_far (p := ⟨gb557, 0, none⟩) (Kd.R_types HO556.out BK557.out (by decide)) (fun _ hk => hk.2) (.int .i64 a0_0)) (fun _ hk => hk.2) (.slice none 0 0)) (fun _ h_ => h_.1))) (Kd.R_base ho0) hb) (Kd.R_lower (Kd.R_new' (Kd.R_newM (M := fun k_ => (w.heap.size ≤ k_)) ho0 (bQZ tB) (fun k_ h_ => h_)) (Kd.R_lt (by (with_reducible repeat (first | apply Kd.RqA | apply Kd.RqN | apply Kd.RqD)); exact (Kd.R_mono (Kd.R_far (p := ⟨gb557, 1, none⟩) (Kd.R_far (p := ⟨gb557, 0, none⟩) (Kd.R_types HO556.out BK557.out (by decide)) (fun _ hk => hk.2) (.int .i64 a0_0)) (fun _ hk => hk.2) (.slice none 0 0)) (fun _ h_ => h_.1))))) (bQZ tB)) (kQB (g := gb547) (o := .cells #[.int .i64 a0_0, .int .i64 a0_1] 26 (0, 0)) (by (with_reducible repeat (first | refine kQN ?_ _ | refine kQD ?_ | refine kQA ?_ _)); refine kQR ?_ NB547_557.out _; (with_reducible repeat (first | refine kQN ?_ _ | refine kQD ?_ | refine kQA ?_ _)); refine kQR ?_ NB547_557.out _; (with_reducible repeat (first | refine kQN ?_ _ | refine kQD ?_ | refine kQA ?_ _)); exact BK547.out) hb) (kQB (g := gb548) (o := .cells #[.int .i64 0, .slice none 0 0] 41 (0, 0)) (by (with_reducible repeat (first | refine kQN ?_ _ | refine kQD ?_ | refine kQA ?_ _)); refine kQR ?_ NB548_557.out _; (with_reducible repeat (first | refine kQN ?_ _ | refine kQD ?_ | refine kQA ?_ _)); refine kQR ?_ NB548_557.out _; (with_reducible repeat (first | refine kQN ?_ _ | refine kQD ?_ | refine kQA ?_ _)); exact BK548.out) hb) (kQB (g := gb557) (o := .cells #[.int .i64 a0_0, .slice none 0 0] 41 (0, 0)) (by (with_reducible repeat (first | refine kQN ?_ _ | refine kQD ?_ | refine kQA ?_ _)); refine kQP (cs := #[.int .i64 a0_0, .slice none 0 0]) ?_ 1 _ rfl; (with_reducible repeat (first | refine kQN ?_ _ | refine kQD ?_ | refine kQA ?_ _)); refine kQP (cs := #[.int .i64 0, .slice none 0 0]) ?_ 0 _ rfl; (with_reducible repeat (first | refine kQN ?_ _ | refine kQD ?_ | refine kQA ?_ _)); exact BK557.out) hb) (bQT tB hb) ?_; clear HO_2 HO556 BK547 BK548 BK557 HB; intro HO_2 HO556 HO560 BK547 BK548 BK557 HB; (try clear hb); (try clear hb2); (try clear hk); (try clear hi); (try clear ho0); obtain ⟨Ao32, co32, eo32⟩ := Kd.R_slice HO560.out; subst eo32))
  go_loopg [37] kj4 (fun kq v37 w' => ∃ (x37_2 : Int) (x558001_2 : List Int) (u558001 : Value), v37 = .int .i64 x37_2 ∧ Aq (impl_MatrixOfLinear.l0 kq t554 t558 (t558.length : Int) x37_2 a0_0 x558001_2 = some (r1, r2, r3)) ∧ Aq (kq ≤ kj4) ∧ Aq (Kd.R (Kd.int .i64) 2 w' w.heap.size (fun k_ => (w.heap.size ≤ k_) ∧ some k_ ≠ ((.slice Ao32 t558.length co32) : Value).ownBlock ∧ some k_ ≠ (u558001 : Value).ownBlock) v555 t554) ∧ Aq (Kd.R (Kd.int .i64) 2 w' w.heap.size (fun k_ => (w.heap.size ≤ k_) ∧ some k_ ≠ (v555 : Value).ownBlock ∧ some k_ ≠ (u558001 : Value).ownBlock) (.slice Ao32 t558.length co32) t558) ∧ Aq (Kd.R (Kd.int .i64) 2 w' w.heap.size (fun k_ => (w.heap.size ≤ k_) ∧ some k_ ≠ (v555 : Value).ownBlock ∧ some k_ ≠ ((.slice Ao32 t558.length co32) : Value).ownBlock) u558001 x558001_2) ∧ Aq (w'.heap[gb547]? = some (.cells #[.int .i64 a0_0, .int .i64 a0_1] 26 (0, 0))) ∧ Aq (w'.heap[gb548]? = some (.cells #[.int .i64 0, (.slice none 0 0)] 41 (0, 0))) ∧ Aq (w'.heap[gb557]? = some (.cells #[.int .i64 a0_0, u558001] 41 (0, 0))) ∧ Aq (Below w.heap.size w w'))
  case atStart => exact ⟨(0), (([] : List Int)), (.slice none 0 0), tS, H', ⟨Nat.le_refl _⟩, ⟨by (with_reducible repeat (first | apply Kd.RqA | apply Kd.RqN | apply Kd.RqD)); exact Kd.R_mono HO556.out (fun _ hk => ⟨hk.1, ⟨hk.2, (by simp [Value.ownBlock])⟩⟩)⟩, ⟨by (with_reducible repeat (first | apply Kd.RqA | apply Kd.RqN | apply Kd.RqD)); exact Kd.R_mono HO560.out (fun _ hk => ⟨hk.1.1, ⟨hk.2, (by simp [Value.ownBlock])⟩⟩)⟩, ⟨by first | exact Kd.R_nil _ _ _ _ _ | exact Kd.N_nil _ _ _ _ _ | exact Kd.V_nil _ _ _ _ _ | exact Kd.Q_nil _ _ _ _ _ | exact Kd.S_nil _ _ _ _ _⟩, ⟨tG BK547.out⟩, ⟨tG BK548.out⟩, ⟨tG BK557.out⟩, ⟨tB⟩⟩
  clear H'
  try clear c1
  try clear c2
  try clear c14
  try clear c14b0
  try clear c14b1
  try clear c19
  try clear c19b0
  try clear c19b1
  try clear hcz17_0
  try clear hcz17_1
  try clear hcz30_0
  try clear hcz30_1
  try clear hcz9_0
  try clear hcz9_1
  try clear hfz17_0
  try clear hfz17_1
  try clear hfz30_0
  try clear hfz30_1
  try clear hfz9_0
  try clear hfz9_1
  obtain ⟨x37_2, x558001_2, u558001, rfl, HA, HK2, HO_10, HO_35, HO_558001, BK547, BK548, BK557, HB⟩ := hrel
  cases gk with
  | zero => exact absurd HA.out (by simp [impl_MatrixOfLinear.l0])
  | succ k2 =>
   have H := HA.out
   clear HA
   simp only [impl_MatrixOfLinear.l0] at H
   by_cases c33 : x37_2 < (t558.length : Int)
   rotate_left
   ·rw [if_neg c33] at H
    have c33b0 := decide_eq_false c33
    clear c33
    simp only [Option.some.injEq, Prod.mk.injEq] at H
    obtain ⟨rfl, rfl, rfl⟩ := H
    have hnb44 := NB557_547.out
    have hnc44 := NB547_557.out
    have hnb45 := NB557_548.out
    have hnc45 := NB548_557.out
    have hcz46_0 : wr.cell? ⟨gb557, 0, none⟩ = some (.int .i64 a0_0) := (kQC BK557.out 0).trans rfl
    have hcz46_1 : wr.cell? ⟨gb557, 1, none⟩ = some (u558001) := (kQC BK557.out 1).trans rfl
    have hfz46_0 := kQF BK557.out 0
    have hfz46_1 := kQF BK557.out 1
    have hnb47 := NB548_547.out
    have hnc47 := NB547_548.out
    have hcz48_0 : wr.cell? ⟨gb548, 0, none⟩ = some (.int .i64 0) := (kQC BK548.out 0).trans rfl
    have hcz48_1 : wr.cell? ⟨gb548, 1, none⟩ = some (.slice none 0 0) := (kQC BK548.out 1).trans rfl
    have hfz48_0 := kQF BK548.out 0
    have hfz48_1 := kQF BK548.out 1
    obtain ⟨Ao49, co49, eo49⟩ := Kd.R_slice HO_558001.out
    subst eo49
    go_wp2
    refine bodyPost_ret (results_ct rfl _ _ gb548 41 #[.int .i64 a0_0, .slice Ao49 x558001_2.length co49] (0, 0) _ rfl (by (with_reducible repeat (first | refine kQN ?_ _ | refine kQD ?_ | refine kQA ?_ _)); refine kQP (cs := #[.int .i64 a0_0, .slice none 0 0]) ?_ 1 _ rfl; (with_reducible repeat (first | refine kQN ?_ _ | refine kQD ?_ | refine kQA ?_ _)); refine kQP (cs := #[.int .i64 0, .slice none 0 0]) ?_ 0 _ rfl; (with_reducible repeat (first | refine kQN ?_ _ | refine kQD ?_ | refine kQA ?_ _)); exact BK548.out) Try.underlying41 rfl (by kernel_rfl)) rfl ?_
    exact ⟨_, tE, by (with_reducible repeat (first | apply Kd.RqA | apply Kd.RqN | apply Kd.RqD)); exact Kd.R_mono (Kd.R_far (p := ⟨gb548, 1, none⟩) (Kd.R_far (p := ⟨gb548, 0, none⟩) (Kd.R_types HO_558001.out BK548.out (by decide)) (fun _ hk => hk.2) (.int .i64 a0_0)) (fun _ hk => hk.2) (.slice Ao49 x558001_2.length co49)) (fun _ hk => hk.1.1), tB⟩
   rw [if_pos c33] at H
   have c33b0 := decide_eq_true c33
   clear c33
   by_cases c34 : 0 ≤ x37_2
   rotate_left
   ·rw [if_neg c34] at H
    exact absurd H (by simp)
   rw [if_pos c34] at H
   have c34b0 := decide_eq_true c34
   clear c34
   by_cases c35 : x37_2 < (t558.length : Int)
   rotate_left
   ·rw [if_neg c35] at H
    exact absurd H (by simp)
   rw [if_pos c35] at H
   have c35b0 := decide_eq_true c35
   clear c35
   by_cases c36 : 0 ≤ (rd t558 x37_2)
   rotate_left
   ·rw [if_neg c36] at H
    exact absurd H (by simp)
   rw [if_pos c36] at H
   have c36b0 := decide_eq_true c36
   clear c36
   by_cases c37 : (rd t558 x37_2) < (t554.length : Int)
   rotate_left
   ·rw [if_neg c37] at H
    exact absurd H (by simp)
   rw [if_pos c37] at H
   have c37b0 := decide_eq_true c37
   clear c37
   by_cases c38 : x558001_2.length < 17592186044416
   rotate_left
   ·rw [if_neg c38] at H
    exact absurd H (by simp)
   rw [if_pos c38] at H
   have LMc38 := Aq.mk c38
   clear c38
   obtain ⟨y563, hy563⟩ : ∃ y_ : List Int, y_ = (x558001_2 ++ [rd t554 (rd t558 x37_2)]) := ⟨_, rfl⟩
   replace H : (impl_MatrixOfLinear.l0 k2 t554 t558 (t558.length : Int) (wrap64 (x37_2 + 1)) a0_0 y563) = some (r1, r2, r3) := by first | (rw [hy563]; with_reducible exact H) | (have H2_ := (Option.bind_some _ _).symm.trans H; rw [hy563]; with_reducible exact H2_) | (have H2_ := (Option.bind_some _ _).symm.trans H; with_reducible exact H2_) | with_reducible exact H | (rw [hy563]; exact H) | exact H
   have Ny563 := Aq.mk hy563
   clear hy563
   replace H' := Aq.mk H
   clear H
   have p561 : 0 ≤ (x37_2 : Int) := of_decide_eq_true tA
   have q561 : x37_2 < (t558.length : Int) := of_decide_eq_true tA
   obtain ⟨ad561, e561, hx561_0⟩ := Kd.at_int (Kd.R_reads' HO_35.out).2.2 x37_2 p561 q561
   cases e561
   replace p561 := eq_true p561
   replace q561 := eq_true q561
   try go_wp2
   have n0_ := Aq.mk (Kd.RqD HO_10.out)
   have n1_ := Aq.mk (Kd.RqD HO_35.out)
   have n2_ := Aq.mk (Kd.RqD HO_558001.out)
   have n3_ := Aq.mk (kQD BK547.out)
   have n4_ := Aq.mk (kQD BK548.out)
   have n5_ := Aq.mk (kQD BK557.out)
   have n6_ := Aq.mk (bQ1 HB.out)
   clear HO_10
   clear HO_35
   clear HO_558001
   clear BK547
   clear BK548
   clear BK557
   clear HB
   have HO_10 := n0_
   have HO_35 := n1_
   have HO_558001 := n2_
   have BK547 := n3_
   have BK548 := n4_
   have BK557 := n5_
   have HB := n6_
   clear n0_ n1_ n2_ n3_ n4_ n5_ n6_
   obtain ⟨Ao40, co40, eo40⟩ := Kd.R_slice HO_10.out
   (first | subst eo40 | (injection eo40 with f1_ f2_ f3_; have f4_ := f1_.symm; have f5_ := f3_.symm; clear f1_ f2_ f3_; subst f4_; subst f5_))
   have p562 : 0 ≤ ((rd t558 x37_2) : Int) := of_decide_eq_true tA
   have q562 : (rd t558 x37_2) < (t554.length : Int) := of_decide_eq_true tA
   obtain ⟨ad562, e562, hx562_0⟩ := Kd.at_int (Kd.R_reads' HO_10.out).2.2 (rd t558 x37_2) p562 q562
   cases e562
   replace p562 := eq_true p562
   replace q562 := eq_true q562
   refine start_ (n := 10) (S := fun w' => w'.cell? ⟨gb557, 0, none⟩ = some (.int .i64 a0_0) ∧ w'.cell? ⟨gb557, 1, none⟩ = some (u558001) ∧ w'.cell? (ad562.add ((rd t558 x37_2)).toNat) = some (.int .i64 (rd t554 (rd t558 x37_2)))) (ds := [7, 9]) #[false, false, false, false, false, false, false, false, false, false] (by kernel_rfl) rfl rfl ⟨(kQC BK557.out 0).trans rfl, (kQC BK557.out 1).trans rfl, hx562_0⟩ (fun hHeld => ?_); refine with_tabW impl_MatrixOfLinear.tab10 impl_MatrixOfLinear.bits10 (fun HT_ HW_ => ?_)
   generalize wr.drew = w39 at HO_10 HO_35 HO_558001 BK547 BK548 BK557 HB hx562_0 hHeld ⊢
   refine tP0 0 41 (bm 10 1) ?_
   refine tP0 2 43 (bm 10 5) ?_
   refine tP0 3 44 (bm 10 13) ?_
   refine tP0 4 45 (bm 10 29) ?_
   refine tT3 1 42 (bm 10 31) ?_
   refine tT3 5 46 (bm 10 63) ?_
   refine one_ (i := 6) (N := some 47) (bm 10 127) rfl rfl (one_of HT_.out (by kernel_rfl)) (by decide) (fun K hK => ?_)
   refine value_ (w1 := ?_) (v := ?_) (by rfl) rfl ?_ ?_
   rotate_left 2
   ·go_simp
    constructor
    ·rfl
    rfl
   refine hK.out _ _ ⟨(kQC (kQA BK557.out _) 0).trans rfl, (kQC (kQA BK557.out _) 1).trans rfl, (World.cell?_alloc_lt _ _ _ (World.block_lt_of_cell? _ _ (hHeld.2.2))).trans (hHeld.2.2)⟩ (fun hHeld => ?_)
   clear hK K
   refine tN 47 ?_
   refine last_ (i := 7) (N := some 48) #[true, true, true, true, true, true, true, true, false, false] rfl rfl (one_of HT_.out (by kernel_rfl)) (by decide) (fun K hK => ?_)
   refine Kd.R_append_step (Kd.int .i64) (w0 := w) w.heap.size (by rfl) (.tmp 42) (.tmp 47) 29 2 (.int .i64 0) 8 rfl Try.underlying29 info2 rfl (by decide) (by omega) u558001 x558001_2 (rd t554 (rd t558 x37_2)) [.int .i64 (rd t554 (rd t558 x37_2))] (fun k_ => (w.heap.size ≤ k_) ∧ some k_ ≠ (.slice (some ad562) t554.length co40 : Value).ownBlock ∧ some k_ ≠ (.slice (some ad561) t558.length co32 : Value).ownBlock) (fun _ => False) rfl rfl ?aP (fun _ hk => hk.elim) ?aF ?aO ?aB ?aS ?aL ?_
   (case aP => exact rfl)
   (case aB => exact tB)
   (case aF => exact (fun k_ hk => ⟨(Nat.le_trans (bQZ tB) hk), Kd.fresh' (Kd.R_lt (tR HO_10.out)) k_ hk, Kd.fresh' (Kd.R_lt (tR HO_35.out)) k_ hk⟩))
   (case aO => exact (tR HO_558001.out))
   (case aS => exact (bQZ tB))
   (case aL => have := LMc38.out; omega)
   intro v564 w41 ho hb hg hat
   rw [← Ny563.out] at ho
   have n0_ := Aq.mk (Kd.R_after (ok := (fun k_ => (w.heap.size ≤ k_) ∧ some k_ ≠ (.slice (some ad561) t558.length co32 : Value).ownBlock)) (by (with_reducible repeat (first | apply Kd.RqA | apply Kd.RqN | apply Kd.RqD)); exact Kd.R_mono HO_10.out (fun _ hk => ⟨⟨hk.1, hk.2.1⟩, hk.2.2⟩)) hg hat)
   have n1_ := Aq.mk (Kd.R_after (ok := (fun k_ => (w.heap.size ≤ k_) ∧ some k_ ≠ (.slice (some ad562) t554.length co40 : Value).ownBlock)) (by (with_reducible repeat (first | apply Kd.RqA | apply Kd.RqN | apply Kd.RqD)); exact Kd.R_mono HO_35.out (fun _ hk => ⟨⟨hk.1, hk.2.1⟩, hk.2.2⟩)) hg hat)
   have n2_ := Aq.mk (blk_grown (g := gb547) (o := .cells #[.int .i64 a0_0, .int .i64 a0_1] 26 (0, 0)) (tG BK547.out) hg (Kd.R_ne HO_558001.out BK547.out (by decide)))
   have n3_ := Aq.mk (blk_grown (g := gb548) (o := .cells #[.int .i64 0, .slice none 0 0] 41 (0, 0)) (tG BK548.out) hg (Kd.R_ne HO_558001.out BK548.out (by decide)))
   have n4_ := Aq.mk (blk_grown (g := gb557) (o := .cells #[.int .i64 a0_0, u558001] 41 (0, 0)) (tG BK557.out) hg (Kd.R_ne HO_558001.out BK557.out (by decide)))
   have n5_ := Aq.mk (hb)
   have n6_ := Aq.mk (ho)
   clear HO_10
   clear HO_35
   clear BK547
   clear BK548
   clear BK557
   clear HB
   clear HO_558001
   have HO_10 := n0_
   have HO_35 := n1_
   have BK547 := n2_
   have BK548 := n3_
   have BK557 := n4_
   have HB := n5_
   have HO565 := n6_
   clear n0_ n1_ n2_ n3_ n4_ n5_ n6_
   clear ho hb hg hat
   obtain ⟨Ao42, co42, eo42⟩ := Kd.R_slice HO565.out
   (first | subst eo42 | (injection eo42 with f1_ f2_ f3_; have f4_ := f1_.symm; have f5_ := f3_.symm; clear f1_ f2_ f3_; subst f4_; subst f5_))
   refine hK.out _ _ ?_
   clear hK K
   refine tN 48 ?_
   refine tP0 8 49 (bm 10 511) ?_
   refine last_ (i := 9) (N := none) #[true, true, true, true, true, true, true, true, true, true] rfl rfl (one_of HT_.out (by kernel_rfl)) (by decide) (fun K hK => ?_)
   have hs43 : w41.cell? ⟨gb557, 1, none⟩ = some (u558001) := (kQC BK557.out 1).trans rfl
   have hfs43 := kQF BK557.out 1
   have hns43_0 := NB547_557.out
   have hns43_1 := NB548_557.out
   have hms43_0 := NB557_547.out
   have hms43_1 := NB557_548.out
   refine skip_ (w1 := ?_) (by rfl) rfl ?_ ?_
   rotate_left
   ·go_simp
    rfl
   refine hK.out _ _ ?_
   clear hK K
   refine done_ (done_of HT_.out (by kernel_rfl)) ?_
   try go_wp2
   go_roundg k2
   case measure => have := HJ4.out; have := HK2.out; omega
   case rel => exact ⟨(wrap64 (x37_2 + 1)), (y563), (.slice Ao42 y563.length co42), tS, H', ⟨by have := HJ4.out; have := HK2.out; omega⟩, ⟨by (with_reducible repeat (first | apply Kd.RqA | apply Kd.RqN | apply Kd.RqD)); exact Kd.R_mono (Kd.R_far (p := ⟨gb557, 1, none⟩) (Kd.R_types HO_10.out BK557.out (by decide)) (fun _ hk => hk.2) (.slice Ao42 y563.length co42)) (fun _ hk => ⟨hk.1.1.1, ⟨hk.1.1.2, hk.1.2⟩⟩)⟩, ⟨by (with_reducible repeat (first | apply Kd.RqA | apply Kd.RqN | apply Kd.RqD)); exact Kd.R_mono (Kd.R_far (p := ⟨gb557, 1, none⟩) (Kd.R_types HO_35.out BK557.out (by decide)) (fun _ hk => hk.2) (.slice Ao42 y563.length co42)) (fun _ hk => ⟨hk.1.1.1, ⟨hk.1.1.2, hk.1.2⟩⟩)⟩, ⟨by (with_reducible repeat (first | apply Kd.RqA | apply Kd.RqN | apply Kd.RqD)); exact Kd.R_mono (Kd.R_far (p := ⟨gb557, 1, none⟩) (Kd.R_types HO565.out BK557.out (by decide)) (fun _ hk => hk.2) (.slice Ao42 y563.length co42)) (fun _ hk => ⟨hk.1.1, ⟨hk.1.2.1, hk.1.2.2⟩⟩)⟩, ⟨by (with_reducible repeat (first | refine kQN ?_ _ | refine kQD ?_ | refine kQA ?_ _)); refine kQR ?_ NB547_557.out _; (with_reducible repeat (first | refine kQN ?_ _ | refine kQD ?_ | refine kQA ?_ _)); exact BK547.out⟩, ⟨by (with_reducible repeat (first | refine kQN ?_ _ | refine kQD ?_ | refine kQA ?_ _)); refine kQR ?_ NB548_557.out _; (with_reducible repeat (first | refine kQN ?_ _ | refine kQD ?_ | refine kQA ?_ _)); exact BK548.out⟩, ⟨by (with_reducible repeat (first | refine kQN ?_ _ | refine kQD ?_ | refine kQA ?_ _)); refine kQP (cs := #[.int .i64 a0_0, u558001]) ?_ 1 _ rfl; (with_reducible repeat (first | refine kQN ?_ _ | refine kQD ?_ | refine kQA ?_ _)); exact BK557.out⟩, ⟨tB⟩⟩
end Go.Proofs.Ytbgbblgdbcjibaa.P
