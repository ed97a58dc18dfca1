/- Functions of the program and what they tell, as the printing program wrote it. -/
import Derived.Test.YtpigghpimgkilaaPx0
import Derived.Test.YtpigghpimgkilaaPx4
import Derived.Test.YtpigghpimgkilaaPx6
import Derived.Test.YtpigghpimgkilaaPx10
namespace Go.Proofs.Ytpigghpimgkilaa.P
open Go.Shelf Go.RowKit Go.Proofs.YtpigghpimgkilaaW.PrintWords Go.Proofs.YtpigghpimgkilaaW.PrintLast Go.Proofs.YtpigghpimgkilaaW.PrintMore
attribute [local go_sem] max2_int min2_int max_two min_two max_three min_three max_four min_four
set_option linter.unusedVariables false
set_option linter.unusedSimpArgs false
set_option maxHeartbeats 8000000
set_option maxRecDepth 100000
def spec_AdjointLinear.l0 : Nat → List Int → List Int → Int → Int → Int → Option (List Int × Int)
  | 0, _, _, _, _, _ => none
  | k + 1, x6, x7, x8, x153000, x153001 => if x8 < (x6.length : Int) then (if x153000 = 0 then (none) else (if 0 ≤ (Int.tmod (wrap64 (x153000 - x8)) x153000) then (if (Int.tmod (wrap64 (x153000 - x8)) x153000) < (x7.length : Int) then (if 0 ≤ x8 then ((spec_l01Square.f k x153000 x153001 (rd x6 x8) (Int.tmod (wrap64 (x153000 - x8)) x153000)).bind fun t165 => (spec_AdjointLinear.l0 k x6 (x7.set ((Int.tmod (wrap64 (x153000 - x8)) x153000) : Int).toNat (Go.bits .xor .i64 (rd x7 (Int.tmod (wrap64 (x153000 - x8)) x153000)) t165)) (wrap64 (x8 + 1)) x153000 x153001)) else (none)) else (none)) else (none))) else ((spec_l03Trim.f k x7).bind fun t167 => (some (t167, 0)))
def spec_AdjointLinear.f (k : Nat) (a0_0 : Int) (a0_1 : Int) (l1 : List Int) : Option (List Int × Int) := (spec_ValidLinear.f k a0_0 a0_1 l1).bind fun t153 => (if t153 = true then ((spec_l03Fold.f k a0_0 a0_1 l1).bind fun t157 => (if 0 ≤ a0_0 then (if (a0_0 : Int).toNat ≤ 35184372088832 then (spec_AdjointLinear.l0 k t157 (List.replicate (a0_0 : Int).toNat 0) 0 a0_0 a0_1) else (none)) else (none))) else (some ((([] : List Int)), 1)))
theorem spec_AdjointLinear.mono_l : ∀ k, (∀ y0 y1 y2 y3 y4, LeO (spec_AdjointLinear.l0 k y0 y1 y2 y3 y4) (spec_AdjointLinear.l0 (k + 1) y0 y1 y2 y3 y4))
 | 0 => fun _ _ _ _ _ r h => by simp [spec_AdjointLinear.l0] at h
 | k + 1 => by
  have ih0 := spec_AdjointLinear.mono_l k
  ·intro y0 y1 y2 y3 y4
   unfold spec_AdjointLinear.l0
   repeat' first
   | (with_reducible first | apply ih0 | apply spec_ValidLinear.mono | apply spec_l01Square.mono | apply spec_l03Fold.mono | apply spec_l03Trim.mono | exact LeO.refl _ | exact LeO.none _ | refine LeO.ite ?_ ?_ | refine LeO.bind ?_ (fun _ => ?_))
   | exact LeO.none _
   | refine LeO.ite ?_ ?_
   | refine LeO.bind ?_ (fun _ => ?_)
theorem spec_AdjointLinear.mono : ∀ a0 a1 a2 k, LeO (spec_AdjointLinear.f k a0 a1 a2) (spec_AdjointLinear.f (k + 1) a0 a1 a2) := by
 intro a0 a1 a2 k
 have ih0 := spec_AdjointLinear.mono_l k
 unfold spec_AdjointLinear.f
 repeat' first
  | (with_reducible first | apply ih0 | apply spec_ValidLinear.mono | apply spec_l01Square.mono | apply spec_l03Fold.mono | apply spec_l03Trim.mono | exact LeO.refl _ | exact LeO.none _ | refine LeO.ite ?_ ?_ | refine LeO.bind ?_ (fun _ => ?_))
  | exact LeO.none _
  | refine LeO.ite ?_ ?_
  | refine LeO.bind ?_ (fun _ => ?_)
def spec_AdjointLinear.T9 : Bool × List (List Nat × List Nat) := (true, [([], []), ([], []), ([0, 1], [0, 1]), ([2], [2]), ([], []), ([], []), ([], []), ([5, 6], [5, 6]), ([7], [7]), ([], []), ([4, 8, 9], [4, 8, 9]), ([3, 10], [3, 10]), ([0, 1, 0, 1, 2, 3, 4, 5, 6, 7, 8, 9, 10, 11], [0, 1]), ([12, 11, 10, 0, 1, 2, 3, 4, 5, 6, 7, 8, 9, 10, 11], [11, 12])])
def spec_AdjointLinear.B9 : List Nat := [0, 0, 3, 7, 0, 0, 0, 96, 224, 0, 1008, 2047, 4095, 8191]
theorem spec_AdjointLinear.tab9 : rtab .any (opsOf Try.f7 9) = spec_AdjointLinear.T9 := by kernel_rfl
theorem spec_AdjointLinear.bits9 : waitsOk spec_AdjointLinear.T9.2 spec_AdjointLinear.B9 = true := by kernel_rfl
theorem spec_AdjointLinear.calls (k : Nat) (a0_0 : Int) (a0_1 : Int) (A1 : Option Addr) (c1 : Nat) (l1 : List Int) (r1 : List Int) (r2 : Int) (w : World) (hr1 : Kd.C (Kd.int .i64) w A1 l1.length l1) (hc1 : l1.length ≤ c1) (h : spec_AdjointLinear.f k a0_0 a0_1 l1 = some (r1, r2)) :
 Calls Try.prog 7 #[.agg #[.int .i64 a0_0, .int .i64 a0_1], .slice A1 l1.length c1] w fun e w' => ∃ v0_ : Value, e = .returned (.tuple #[v0_, .int .i64 r2]) ∧ Kd.R (Kd.int .i64) 2 w' w.heap.size (fun _ => True) v0_ r1 ∧ Below w.heap.size w w' := by
 have hu27 := Try.underlying27
 have HR1 := Aq.mk hr1
 have HC1 := Aq.mk hc1
 clear hr1 hc1
 have HB := Aq.mk (Below.refl w.heap.size w)
 have H : ((spec_ValidLinear.f k a0_0 a0_1 l1).bind fun t153 => (if t153 = true then ((spec_l03Fold.f k a0_0 a0_1 l1).bind fun t157 => (if 0 ≤ a0_0 then (if (a0_0 : Int).toNat ≤ 35184372088832 then (spec_AdjointLinear.l0 k t157 (List.replicate (a0_0 : Int).toNat 0) 0 a0_0 a0_1) else (none)) else (none))) else (some ((([] : List Int)), 1)))) = some (r1, r2) := h
 clear h
 obtain ⟨t153, A3, H⟩ := qBd H
 by_cases c4 : t153 = true
 rotate_left
 ·replace c4 := Bool.eq_false_iff.mpr c4
  subst c4
  rw [if_neg (show ¬ (false = true) by decide)] at H
  obtain ⟨y154, hy154⟩ : ∃ y_ : List Int, y_ = (([] : List Int)) := ⟨_, rfl⟩
  replace H : (some (y154, 1)) = some (r1, r2) := by first | (rw [hy154]; with_reducible exact H) | (have H2_ := (Option.bind_some _ _).symm.trans H; rw [hy154]; with_reducible exact H2_) | (have H2_ := (Option.bind_some _ _).symm.trans H; with_reducible exact H2_) | with_reducible exact H | (rw [hy154]; exact H) | exact H
  have Ny154 := Aq.mk hy154
  clear hy154
  simp only [Option.some.injEq, Prod.mk.injEq] at H
  obtain ⟨rfl, rfl⟩ := H
  go_enter Try.func7, Try.ntmps7
  go_wp2_with (first | ((with_reducible refine gQd (N := 2) rfl ?_); refine xQe ?hg (N := 2) ?hd (cs := #[.int .i64 a0_0, .int .i64 a0_1]) (t := 27) ?hr ?_; (case hd => rfl); (case hg => rfl); (case hr => exact tH); intro gb152 hg w34 hbox hb; refine qM4 (bQT tB hb) hbox (tZ w hg) (tZ w hg) ?_; clear HB; intro HB BK152 GW152 GE152; clear hb hbox hg; have hcz35_0 : w34.cell? ⟨gb152, 0, none⟩ = some (.int .i64 a0_0) := (kQC BK152.out 0).trans rfl; have hcz35_1 : w34.cell? ⟨gb152, 1, none⟩ = some (.int .i64 a0_1) := (kQC BK152.out 1).trans rfl; have hfz35_0 := kQF BK152.out 0; have hfz35_1 := kQF BK152.out 1) | ((with_reducible refine gQc (f := 24) rfl ?_); refine goesL_ (some 12) rfl rfl Try.func24 (by kernel_rfl) rfl #[.agg #[.int .i64 a0_0, .int .i64 a0_1], .slice A1 l1.length c1] rfl tL ?_; (with_reducible refine (spec_ValidLinear.calls k a0_0 a0_1 _ _ l1 false _ ?s1 ?s2 A3.out).mono ?_); (case s1 => exact tC ((Kd.C_below HR1.out HB.out))); (case s2 => exact HC1.out); rintro e w36 ⟨rfl, hb⟩; refine ⟨_, rfl, ?_⟩; refine qM2 (tQ BK152.out hb) (bQT tB hb) ?_; clear BK152 HB; intro BK152 HB; (try clear hb); (try clear hb2); (try clear hk); (try clear hi)) | ((with_reducible refine gQd (N := 14) rfl ?_); refine Kd.R_lit (Kd.int .i64) _ 2 ?hg (N := 14) ?hd (xs := ([] : List Int)) (inner := []) (ok := fun _ => True) (okp := fun _ => True) ?hr ?hp (fun _ hk => hk) trivial (Below.refl _ _) (Nat.le_refl _) (by simp) ?_; (case hd => rfl); (case hg => rfl); (case hr => exact tH); (case hp => exact (Reps.none _ _)); intro v155 w37 ho38 hb hg_ hnew_; clear hg_ hnew_; (first | rw [← Ny154.out] at ho38 | (simp only [Int.reduceToNat] at ho38; rw [← Ny154.out] at ho38)); refine qM3 (Kd.R_lower ho38 (bQZ tB)) (tQ BK152.out hb) (bQT tB hb) ?_; clear BK152 HB; intro HO156 BK152 HB; clear hb ho38))
  go_ret2
  exact ⟨_, tE, tR HO156.out, tB⟩
 subst c4
 rw [if_pos rfl] at H
 obtain ⟨t157, A5, H⟩ := qBd H
 by_cases c6 : 0 ≤ a0_0
 rotate_left
 ·rw [if_neg c6] at H
  exact absurd H (by simp)
 rw [if_pos c6] at H
 have c6b0 := eq_true c6
 have c6b1 := decide_eq_true c6
 clear c6
 by_cases c7 : (a0_0 : Int).toNat ≤ 35184372088832
 rotate_left
 ·rw [if_neg c7] at H
  exact absurd H (by simp)
 rw [if_pos c7] at H
 have c7b0 := eq_true c7
 have c7b1 := decide_eq_true c7
 clear c7
 obtain ⟨y160, hy160⟩ : ∃ y_ : List Int, y_ = (List.replicate (a0_0 : Int).toNat 0) := ⟨_, rfl⟩
 replace H : (spec_AdjointLinear.l0 k t157 y160 0 a0_0 a0_1) = some (r1, r2) := by first | (rw [hy160]; with_reducible exact H) | (have H2_ := (Option.bind_some _ _).symm.trans H; rw [hy160]; with_reducible exact H2_) | (have H2_ := (Option.bind_some _ _).symm.trans H; with_reducible exact H2_) | with_reducible exact H | (rw [hy160]; exact H) | exact H
 have Ny160 := Aq.mk hy160
 clear hy160
 replace H' := Aq.mk H
 clear H
 go_enter Try.func7, Try.ntmps7
 go_wp2_with (first | ((with_reducible refine gQd (N := 2) rfl ?_); refine xQe ?hg (N := 2) ?hd (cs := #[.int .i64 a0_0, .int .i64 a0_1]) (t := 27) ?hr ?_; (case hd => rfl); (case hg => rfl); (case hr => exact tH); intro gb152 hg w8 hbox hb; refine qM4 (bQT tB hb) hbox (tZ w hg) (tZ w hg) ?_; clear HB; intro HB BK152 GW152 GE152; clear hb hbox hg; have hcz9_0 : w8.cell? ⟨gb152, 0, none⟩ = some (.int .i64 a0_0) := (kQC BK152.out 0).trans rfl; have hcz9_1 : w8.cell? ⟨gb152, 1, none⟩ = some (.int .i64 a0_1) := (kQC BK152.out 1).trans rfl; have hfz9_0 := kQF BK152.out 0; have hfz9_1 := kQF BK152.out 1) | ((with_reducible refine gQc (f := 24) rfl ?_); refine goesL_ (some 12) rfl rfl Try.func24 (by kernel_rfl) rfl #[.agg #[.int .i64 a0_0, .int .i64 a0_1], .slice A1 l1.length c1] rfl tL ?_; (with_reducible refine (spec_ValidLinear.calls k a0_0 a0_1 _ _ l1 true _ ?s1 ?s2 A3.out).mono ?_); (case s1 => exact tC ((Kd.C_below HR1.out HB.out))); (case s2 => exact HC1.out); rintro e w10 ⟨rfl, hb⟩; refine ⟨_, rfl, ?_⟩; refine qM2 (tQ BK152.out hb) (bQT tB hb) ?_; clear BK152 HB; intro BK152 HB; (try clear hb); (try clear hb2); (try clear hk); (try clear hi); have hcz11_0 : w10.cell? ⟨gb152, 0, none⟩ = some (.int .i64 a0_0) := (kQC BK152.out 0).trans rfl; have hcz11_1 : w10.cell? ⟨gb152, 1, none⟩ = some (.int .i64 a0_1) := (kQC BK152.out 1).trans rfl; have hfz11_0 := kQF BK152.out 0; have hfz11_1 := kQF BK152.out 1) | ((with_reducible refine gQc (f := 25) rfl ?_); refine goesL_ (some 17) rfl rfl Try.func25 (by kernel_rfl) rfl #[.agg #[.int .i64 a0_0, .int .i64 a0_1], .slice A1 l1.length c1] rfl tL ?_; (with_reducible refine (spec_l03Fold.calls k a0_0 a0_1 _ _ l1 t157 _ ?s1 ?s2 A5.out).mono ?_); (case s1 => exact tC ((Kd.C_below HR1.out HB.out))); (case s2 => exact HC1.out); rintro e w12 ⟨v158, rfl, ho0, hb⟩; refine ⟨_, rfl, ?_⟩; refine qM3 (Kd.R_lower ho0 (bQZ tB)) (tQ BK152.out hb) (bQT tB hb) ?_; clear BK152 HB; intro HO159 BK152 HB; (try clear hb); (try clear hb2); (try clear hk); (try clear hi); (try clear ho0); have hcz13_0 : w12.cell? ⟨gb152, 0, none⟩ = some (.int .i64 a0_0) := (kQC BK152.out 0).trans rfl; have hcz13_1 : w12.cell? ⟨gb152, 1, none⟩ = some (.int .i64 a0_1) := (kQC BK152.out 1).trans rfl; have hfz13_0 := kQF BK152.out 0; have hfz13_1 := kQF BK152.out 1) | ((with_reducible refine gQd (N := 20) rfl ?_); refine Kd.R_make (Kd.int .i64) _ 2 rfl (N := 20) rfl 24 _ _ rfl a0_0 rfl rfl Try.underlying24 (.int .i64 0) 8 info2 rfl (by decide) (by omega) 0 (ok := fun _ => True) (okp := fun _ => True) rfl (fun _ hk => hk) trivial (of_decide_eq_true tA) (Nat.le_trans (Nat.mul_le_mul_right _ (of_decide_eq_true tA : a0_0.toNat ≤ 35184372088832)) (by omega)) (Below.refl _ _) (Nat.le_refl _) ?_; intro v161 w14 ho15 hb hg_ hnew_; clear hg_ hnew_; (first | rw [← Ny160.out] at ho15 | (simp only [Int.reduceToNat] at ho15; rw [← Ny160.out] at ho15)); refine qM4 (Kd.R_elder' (tR HO159.out) (Kd.R_base ho15) hb) (Kd.R_lower (Kd.R_new' ho15 (Kd.R_lt (tR HO159.out))) (bQZ tB)) (tQ BK152.out hb) (bQT tB hb) ?_; clear HO159 BK152 HB; intro HO159 HO162 BK152 HB; clear hb ho15))
 go_loopg [8] k (fun kq v8 w' => ∃ (x7_1 : List Int) (x8_1 : Int), v8 = .int .i64 x8_1 ∧ Aq (spec_AdjointLinear.l0 kq t157 x7_1 x8_1 a0_0 a0_1 = some (r1, r2)) ∧ Aq (kq ≤ k) ∧ Aq (Kd.R (Kd.int .i64) 2 w' w.heap.size (fun k_ => some k_ ≠ (v161 : Value).ownBlock) v158 t157) ∧ Aq (Kd.R (Kd.int .i64) 2 w' w.heap.size (fun k_ => some k_ ≠ (v158 : Value).ownBlock) v161 x7_1) ∧ Aq (w'.heap[gb152]? = some (.cells #[.int .i64 a0_0, .int .i64 a0_1] 27 (0, 0))) ∧ Aq (Below w.heap.size w w'))
 case atStart => exact ⟨(y160), (0), tS, H', ⟨Nat.le_refl _⟩, ⟨by (with_reducible repeat (first | apply Kd.RqA | apply Kd.RqN | apply Kd.RqD)); exact Kd.R_mono HO159.out (fun _ hk => hk.2)⟩, ⟨by (with_reducible repeat (first | apply Kd.RqA | apply Kd.RqN | apply Kd.RqD)); exact Kd.R_mono HO162.out (fun _ hk => hk.2)⟩, ⟨tG BK152.out⟩, ⟨tB⟩⟩
 clear H'
 try clear c1
 try clear c4
 try clear c6
 try clear c6b0
 try clear c6b1
 try clear c7
 try clear c7b0
 try clear c7b1
 try clear hcz11_0
 try clear hcz11_1
 try clear hcz13_0
 try clear hcz13_1
 try clear hcz9_0
 try clear hcz9_1
 try clear hfz11_0
 try clear hfz11_1
 try clear hfz13_0
 try clear hfz13_1
 try clear hfz9_0
 try clear hfz9_1
 obtain ⟨x7_1, x8_1, rfl, HA, HK1, HO_6, HO_7, BK152, HB⟩ := hrel
 cases gk with
 | zero => exact absurd HA.out (by simp [spec_AdjointLinear.l0])
 | succ k1 =>
  have H := HA.out
  clear HA
  simp only [spec_AdjointLinear.l0] at H
  by_cases c16 : x8_1 < (t157.length : Int)
  rotate_left
  ·rw [if_neg c16] at H
   have c16b0 := decide_eq_false c16
   clear c16
   obtain ⟨t167, A30, H⟩ := qBd H
   simp only [Option.some.injEq, Prod.mk.injEq] at H
   obtain ⟨rfl, rfl⟩ := H
   obtain ⟨Ao31, co31, eo31⟩ := Kd.R_slice HO_6.out
   subst eo31
   obtain ⟨Ao32, co32, eo32⟩ := Kd.R_slice HO_7.out
   subst eo32
   go_wp2_with (first | ((with_reducible refine gQc (f := 27) rfl ?_); refine goesL_ (some 48) rfl rfl Try.func27 (by kernel_rfl) rfl #[.slice Ao32 x7_1.length co32] rfl tL ?_; (with_reducible refine (spec_l03Trim.calls k1 _ _ x7_1 t167 _ ?s1 ?s2 A30.out).mono ?_); (case s1 => exact tC ((Kd.R_reads' HO_7.out).2.2)); (case s2 => exact (Kd.R_reads' HO_7.out).2.1); rintro e w33 ⟨v168, rfl, ho0, hb⟩; refine ⟨_, rfl, ?_⟩; refine qM5 (Kd.R_elder' (tR HO_6.out) (Kd.R_base ho0) hb) (Kd.R_elder' (tR HO_7.out) (Kd.R_base ho0) hb) (Kd.R_lower (Kd.R_new' (Kd.R_new' ho0 (Kd.R_lt (tR HO_6.out))) (Kd.R_lt (tR HO_7.out))) (bQZ tB)) (tQ BK152.out hb) (bQT tB hb) ?_; clear HO_6 HO_7 BK152 HB; intro HO_6 HO_7 HO169 BK152 HB; (try clear hb); (try clear hb2); (try clear hk); (try clear hi); (try clear ho0)))
   go_ret2
   exact ⟨_, tE, by (with_reducible repeat (first | apply Kd.RqA | apply Kd.RqN | apply Kd.RqD)); exact Kd.R_mono HO169.out (fun _ hk => trivial), tB⟩
  rw [if_pos c16] at H
  have c16b0 := decide_eq_true c16
  clear c16
  by_cases c17 : a0_0 = 0
  ·rw [if_pos c17] at H
   exact absurd H (by simp)
  rw [if_neg c17] at H
  have c17b0 := beq_eq_false_iff_ne.mpr c17
  have c17b1 := bne_iff_ne.mpr c17
  obtain ⟨ji18, hji18⟩ : ∃ j_ : Int, (Int.tmod (wrap64 (a0_0 - x8_1)) a0_0) = j_ := ⟨_, rfl⟩
  first | rw [hji18] at H | simp only [hji18] at H | skip
  by_cases c19 : 0 ≤ (ji18)
  rotate_left
  ·rw [if_neg c19] at H
   exact absurd H (by simp)
  rw [if_pos c19] at H
  have c19b0 := decide_eq_true c19
  clear c19
  by_cases c20 : (ji18) < (x7_1.length : Int)
  rotate_left
  ·rw [if_neg c20] at H
   exact absurd H (by simp)
  rw [if_pos c20] at H
  have c20b0 := decide_eq_true c20
  clear c20
  by_cases c21 : 0 ≤ x8_1
  rotate_left
  ·rw [if_neg c21] at H
   exact absurd H (by simp)
  rw [if_pos c21] at H
  have c21b0 := decide_eq_true c21
  clear c21
  obtain ⟨t165, A22, H⟩ := qBd H
  obtain ⟨y166, hy166⟩ : ∃ y_ : List Int, y_ = (x7_1.set ((ji18) : Int).toNat (Go.bits .xor .i64 (rd x7_1 (ji18)) t165)) := ⟨_, rfl⟩
  replace H : (spec_AdjointLinear.l0 k1 t157 y166 (wrap64 (x8_1 + 1)) a0_0 a0_1) = some (r1, r2) := by first | (rw [hy166]; with_reducible exact H) | (have H2_ := (Option.bind_some _ _).symm.trans H; rw [hy166]; with_reducible exact H2_) | (have H2_ := (Option.bind_some _ _).symm.trans H; with_reducible exact H2_) | with_reducible exact H | (rw [hy166]; exact H) | exact H
  have Ny166 := Aq.mk hy166
  clear hy166
  replace H' := Aq.mk H
  clear H
  obtain ⟨Ao24, co24, eo24⟩ := Kd.R_slice HO_6.out
  subst eo24
  have hcz25_0 : wr.cell? ⟨gb152, 0, none⟩ = some (.int .i64 a0_0) := (kQC BK152.out 0).trans rfl
  have hcz25_1 : wr.cell? ⟨gb152, 1, none⟩ = some (.int .i64 a0_1) := (kQC BK152.out 1).trans rfl
  have hfz25_0 := kQF BK152.out 0
  have hfz25_1 := kQF BK152.out 1
  try go_wp2
  have n0_ := Aq.mk (Kd.RqD HO_6.out)
  have n1_ := Aq.mk (Kd.RqD HO_7.out)
  have n2_ := Aq.mk (kQD BK152.out)
  have n3_ := Aq.mk (bQ1 HB.out)
  clear HO_6
  clear HO_7
  clear BK152
  clear HB
  have HO_6 := n0_
  have HO_7 := n1_
  have BK152 := n2_
  have HB := n3_
  clear n0_ n1_ n2_ n3_
  obtain ⟨Ao27, co27, eo27⟩ := Kd.R_slice HO_7.out
  (first | subst eo27 | (injection eo27 with f1_ f2_ f3_; have f4_ := f1_.symm; have f5_ := f3_.symm; clear f1_ f2_ f3_; subst f4_; subst f5_))
  have p163 : 0 ≤ ((ji18) : Int) := of_decide_eq_true tA
  have q163 : (ji18) < (x7_1.length : Int) := of_decide_eq_true tA
  obtain ⟨ad163, e163, hx163_0⟩ := Kd.at_int (Kd.R_reads' HO_7.out).2.2 (ji18) p163 q163
  cases e163
  replace p163 := eq_true p163
  replace q163 := eq_true q163
  have p164 : 0 ≤ (x8_1 : Int) := of_decide_eq_true tA
  have q164 : x8_1 < (t157.length : Int) := of_decide_eq_true tA
  obtain ⟨ad164, e164, hx164_0⟩ := Kd.at_int (Kd.R_reads' HO_6.out).2.2 x8_1 p164 q164
  cases e164
  replace p164 := eq_true p164
  replace q164 := eq_true q164
  refine start_ (n := 14) (S := fun w' => w'.cell? ⟨gb152, 0, none⟩ = some (.int .i64 a0_0) ∧ w'.cell? ⟨gb152, 1, none⟩ = some (.int .i64 a0_1) ∧ w'.cell? (ad163.add ((ji18)).toNat) = some (.int .i64 (rd x7_1 (ji18))) ∧ w'.cell? (ad164.add (x8_1).toNat) = some (.int .i64 (rd t157 x8_1))) (ds := [13]) #[false, false, false, false, false, false, false, false, false, false, false, false, false, false] (by kernel_rfl) rfl rfl ⟨(kQC BK152.out 0).trans rfl, (kQC BK152.out 1).trans rfl, hx163_0, hx164_0⟩ (fun hHeld => ?_); refine with_tabW spec_AdjointLinear.tab9 spec_AdjointLinear.bits9 (fun HT_ HW_ => ?_)
  generalize wr.drew = w26 at HO_6 HO_7 BK152 HB hx163_0 hx164_0 hHeld ⊢
  refine tP0 0 34 (bm 14 1) ?_
  refine tP0 1 35 (bm 14 3) ?_
  refine tP0 2 36 (bm 14 7) ?_
  refine tP0 5 39 (bm 14 39) ?_
  refine tP0 6 40 (bm 14 103) ?_
  refine tP0 7 41 (bm 14 231) ?_
  refine tP0 9 43 (bm 14 743) ?_
  refine tT4 3 37 (bm 14 751) ?_
  refine tT4 4 38 (bm 14 767) ?_
  refine tT4 8 42 (bm 14 1023) ?_
  refine one_ (i := 10) (N := some 44) (bm 14 2047) rfl rfl (one_of HT_.out (by kernel_rfl)) (by decide) (fun K hK => ?_)
  refine goes_ Try.func26 (by kernel_rfl) rfl #[.agg #[.int .i64 a0_0, .int .i64 a0_1], .int .i64 (rd t157 x8_1), .int .i64 ji18] (by rfl) rfl rfl (by (try simp only [List.map_toArray, List.map_cons, List.map_nil]); first | done | (simp only [hji18]; rfl) | rfl | (simp only [List.length_drop, List.length_take]; rfl)) ?_
  with_reducible refine (spec_l01Square.calls k1 a0_0 a0_1 (rd t157 x8_1) ji18 t165 _ A22.out).mono ?_
  rintro e w28 ⟨rfl, hb⟩
  have HS2_ := (hb.cell (World.block_lt_of_cell? _ _ (hHeld.2.2.1))).trans (hHeld.2.2.1)
  have HS3_ := (hb.cell (World.block_lt_of_cell? _ _ (hHeld.2.2.2))).trans (hHeld.2.2.2)
  refine ⟨_, rfl, ?_⟩
  have n0_ := Aq.mk (Kd.R_below (tR HO_6.out) hb)
  have n1_ := Aq.mk (Kd.R_below (tR HO_7.out) hb)
  have n2_ := Aq.mk (tQ BK152.out hb)
  have n3_ := Aq.mk (bQT tB hb)
  clear HO_6
  clear HO_7
  clear BK152
  clear HB
  have HO_6 := n0_
  have HO_7 := n1_
  have BK152 := n2_
  have HB := n3_
  clear n0_ n1_ n2_ n3_
  (try clear hb)
  (try clear hb2)
  (try clear hk)
  (try clear hi)
  have p23 : 0 ≤ ((ji18) : Int) := of_decide_eq_true tA
  have q23 : ((ji18) : Int) < ((x7_1.length : Int) : Int) := of_decide_eq_true tA
  obtain ⟨go23, co23, eo23, gb23, gl23, cl23, HG23⟩ := Kd.R_form HO_7.out (by omega)
  (first | cases eo23 | (injection eo23 with ea_ en_ ec_; (first | subst ea_ | (injection ea_ with ea_; subst ea_)); subst ec_; clear en_))
  have GB23 := Aq.mk gb23
  have GG23 := Aq.mk HG23
  clear gb23 gl23 HG23
  (first | simp only [add_plain] at hx163_0 | skip)
  obtain ⟨hx23_0, hf23_0⟩ := Kd.R_celln 0 HO_7.out ((ji18) : Int) p23 q23
  replace p23 := eq_true p23
  replace q23 := eq_true q23
  have HP29 := Kd.R_putn HO_7.out ((ji18) : Int) (Go.bits .xor .i64 (rd x7_1 (ji18)) t165)
  rw [← Ny166.out] at HP29
  have HQ29 := Aq.mk HP29
  clear HP29
  refine hK.out _ _ ⟨(kQC BK152.out 0).trans rfl, (kQC BK152.out 1).trans rfl, HS2_, HS3_⟩ (fun hHeld => ?_)
  clear hK K
  refine tN 44 ?_
  refine tP0 11 45 (bm 14 4095) ?_
  refine tP0 12 46 (bm 14 8191) ?_
  refine last_ (i := 13) (N := none) #[true, true, true, true, true, true, true, true, true, true, true, true, true, true] rfl rfl (one_of HT_.out (by kernel_rfl)) (by decide) (fun K hK => ?_)
  refine skip_ (w1 := ?_) (by rfl) rfl ?_ ?_
  rotate_left
  ·go_simp
   rfl
  refine hK.out _ _ ?_
  clear hK K
  refine done_ (done_of HT_.out (by kernel_rfl)) ?_
  try go_wp2
  go_roundg k1
  case measure => have := HK1.out; omega
  case rel => exact ⟨(y166), (wrap64 (x8_1 + 1)), tS, H', ⟨by have := HK1.out; omega⟩, ⟨by (with_reducible repeat (first | apply Kd.RqA | apply Kd.RqN | apply Kd.RqD)); exact Kd.R_mono (Kd.R_far (p := ⟨go23, ((ji18) : Int).toNat, none⟩) (Kd.R_mono HO_6.out (fun k_ hk => (⟨hk, fun e_ => hk (by rw [e_]; rfl)⟩ : _ ∧ k_ ≠ go23))) (fun _ hk => hk.2) (.int .i64 (Go.bits .xor .i64 (rd x7_1 (ji18)) t165))) (fun _ hk => hk.1)⟩, ⟨tR HQ29.out⟩, ⟨by (with_reducible repeat (first | refine kQN ?_ _ | refine kQD ?_ | refine kQA ?_ _)); refine kQR ?_ (by have h_ := Kd.R_ne HO_7.out BK152.out (by decide); intro e_; exact h_ (by rw [e_]; rfl)) _; (with_reducible repeat (first | refine kQN ?_ _ | refine kQD ?_ | refine kQA ?_ _)); exact BK152.out⟩, ⟨by repeat (first | (with_reducible first | exact HB.out | apply bQA | apply bQN | apply bQ1 | refine bQS ?_ GB23.out | refine bQS ?_ GE152.out) | exact HB.out)⟩⟩
def impl_Field_fold.l0 : Nat → List Int → List Int → Int → Int → Int → Int → Option (List Int)
  | 0, _, _, _, _, _, _ => none
  | k + 1, x5, x11, x12, x13, x211000, x211001 => if x13 < x12 then (if 0 ≤ x13 then (if x13 < (x11.length : Int) then (if x211000 = 0 then (none) else (if 0 ≤ (Int.tmod x13 x211000) then (if (Int.tmod x13 x211000) < (x5.length : Int) then (impl_Field_fold.l0 k (x5.set ((Int.tmod x13 x211000) : Int).toNat (Go.bits .xor .i64 (rd x5 (Int.tmod x13 x211000)) (rd x11 x13))) x11 x12 (wrap64 (x13 + 1)) x211000 x211001) else (none)) else (none))) else (none)) else (none)) else ((impl_trim.f k x5).bind fun t217 => (some t217))
def impl_Field_fold.f (k : Nat) (a0_0 : Int) (a0_1 : Int) (l1 : List Int) : Option (List Int) := if 0 ≤ a0_0 then (if (a0_0 : Int).toNat ≤ 35184372088832 then (impl_Field_fold.l0 k (List.replicate (a0_0 : Int).toNat 0) l1 (l1.length : Int) 0 a0_0 a0_1) else (none)) else (none)
theorem impl_Field_fold.mono_l : ∀ k, (∀ y0 y1 y2 y3 y4 y5, LeO (impl_Field_fold.l0 k y0 y1 y2 y3 y4 y5) (impl_Field_fold.l0 (k + 1) y0 y1 y2 y3 y4 y5))
 | 0 => fun _ _ _ _ _ _ r h => by simp [impl_Field_fold.l0] at h
 | k + 1 => by
  have ih0 := impl_Field_fold.mono_l k
  ·intro y0 y1 y2 y3 y4 y5
   unfold impl_Field_fold.l0
   repeat' first
   | (with_reducible first | apply ih0 | apply impl_trim.mono | exact LeO.refl _ | exact LeO.none _ | refine LeO.ite ?_ ?_ | refine LeO.bind ?_ (fun _ => ?_))
   | exact LeO.none _
   | refine LeO.ite ?_ ?_
   | refine LeO.bind ?_ (fun _ => ?_)
theorem impl_Field_fold.mono : ∀ a0 a1 a2 k, LeO (impl_Field_fold.f k a0 a1 a2) (impl_Field_fold.f (k + 1) a0 a1 a2) := by
 intro a0 a1 a2 k
 have ih0 := impl_Field_fold.mono_l k
 unfold impl_Field_fold.f
 repeat' first
  | (with_reducible first | apply ih0 | apply impl_trim.mono | exact LeO.refl _ | exact LeO.none _ | refine LeO.ite ?_ ?_ | refine LeO.bind ?_ (fun _ => ?_))
  | exact LeO.none _
  | refine LeO.ite ?_ ?_
  | refine LeO.bind ?_ (fun _ => ?_)
theorem impl_Field_fold.calls (k : Nat) (a0_0 : Int) (a0_1 : Int) (A1 : Option Addr) (c1 : Nat) (l1 : List Int) (r : List Int) (w : World) (hr1 : Kd.C (Kd.int .i64) w A1 l1.length l1) (hc1 : l1.length ≤ c1) (h : impl_Field_fold.f k a0_0 a0_1 l1 = some r) :
 Calls Try.prog 29 #[.agg #[.int .i64 a0_0, .int .i64 a0_1], .slice A1 l1.length c1] w fun e w' => ∃ v0_ : Value, e = .returned (v0_) ∧ Kd.R (Kd.int .i64) 2 w' w.heap.size (fun _ => True) v0_ r ∧ Below w.heap.size w w' := by
 have hu27 := Try.underlying27
 have HR1 := Aq.mk hr1
 have HC1 := Aq.mk hc1
 clear hr1 hc1
 have HB := Aq.mk (Below.refl w.heap.size w)
 have H : (if 0 ≤ a0_0 then (if (a0_0 : Int).toNat ≤ 35184372088832 then (impl_Field_fold.l0 k (List.replicate (a0_0 : Int).toNat 0) l1 (l1.length : Int) 0 a0_0 a0_1) else (none)) else (none)) = some r := h
 clear h
 by_cases c3 : 0 ≤ a0_0
 rotate_left
 ·rw [if_neg c3] at H
  exact absurd H (by simp)
 rw [if_pos c3] at H
 have c3b0 := eq_true c3
 have c3b1 := decide_eq_true c3
 clear c3
 by_cases c4 : (a0_0 : Int).toNat ≤ 35184372088832
 rotate_left
 ·rw [if_neg c4] at H
  exact absurd H (by simp)
 rw [if_pos c4] at H
 have c4b0 := eq_true c4
 have c4b1 := decide_eq_true c4
 clear c4
 obtain ⟨y211, hy211⟩ : ∃ y_ : List Int, y_ = (List.replicate (a0_0 : Int).toNat 0) := ⟨_, rfl⟩
 replace H : (impl_Field_fold.l0 k y211 l1 (l1.length : Int) 0 a0_0 a0_1) = some r := by first | (rw [hy211]; with_reducible exact H) | (have H2_ := (Option.bind_some _ _).symm.trans H; rw [hy211]; with_reducible exact H2_) | (have H2_ := (Option.bind_some _ _).symm.trans H; with_reducible exact H2_) | with_reducible exact H | (rw [hy211]; exact H) | exact H
 have Ny211 := Aq.mk hy211
 clear hy211
 replace H' := Aq.mk H
 clear H
 go_enter Try.func29, Try.ntmps29
 go_wp2_with (first | ((with_reducible refine gQd (N := 2) rfl ?_); refine xQe ?hg (N := 2) ?hd (cs := #[.int .i64 a0_0, .int .i64 a0_1]) (t := 27) ?hr ?_; (case hd => rfl); (case hg => rfl); (case hr => exact tH); intro gb210 hg w5 hbox hb; refine qM4 (bQT tB hb) hbox (tZ w hg) (tZ w hg) ?_; clear HB; intro HB BK210 GW210 GE210; clear hb hbox hg; have hcz6_0 : w5.cell? ⟨gb210, 0, none⟩ = some (.int .i64 a0_0) := (kQC BK210.out 0).trans rfl; have hcz6_1 : w5.cell? ⟨gb210, 1, none⟩ = some (.int .i64 a0_1) := (kQC BK210.out 1).trans rfl; have hfz6_0 := kQF BK210.out 0; have hfz6_1 := kQF BK210.out 1) | ((with_reducible refine gQd (N := 10) rfl ?_); refine Kd.R_make (Kd.int .i64) _ 2 rfl (N := 10) rfl 24 _ _ rfl a0_0 rfl rfl Try.underlying24 (.int .i64 0) 8 info2 rfl (by decide) (by omega) 0 (ok := fun _ => True) (okp := fun _ => True) rfl (fun _ hk => hk) trivial (of_decide_eq_true tA) (Nat.le_trans (Nat.mul_le_mul_right _ (of_decide_eq_true tA : a0_0.toNat ≤ 35184372088832)) (by omega)) (Below.refl _ _) (Nat.le_refl _) ?_; intro v212 w7 ho8 hb hg_ hnew_; clear hg_ hnew_; (first | rw [← Ny211.out] at ho8 | (simp only [Int.reduceToNat] at ho8; rw [← Ny211.out] at ho8)); refine qM3 (Kd.R_lower ho8 (bQZ tB)) (tQ BK210.out hb) (bQT tB hb) ?_; clear BK210 HB; intro HO213 BK210 HB; clear hb ho8))
 go_loopg [13] k (fun kq v13 w' => ∃ (x5_1 : List Int) (x13_1 : Int), v13 = .int .i64 x13_1 ∧ Aq (impl_Field_fold.l0 kq x5_1 l1 (l1.length : Int) x13_1 a0_0 a0_1 = some r) ∧ Aq (kq ≤ k) ∧ Aq (Kd.R (Kd.int .i64) 2 w' w.heap.size (fun _ => True) v212 x5_1) ∧ Aq (w'.heap[gb210]? = some (.cells #[.int .i64 a0_0, .int .i64 a0_1] 27 (0, 0))) ∧ Aq (Below w.heap.size w w'))
 case atStart => exact ⟨(y211), (0), tS, H', ⟨Nat.le_refl _⟩, ⟨tR HO213.out⟩, ⟨tG BK210.out⟩, ⟨tB⟩⟩
 clear H'
 try clear c1
 try clear c3
 try clear c3b0
 try clear c3b1
 try clear c4
 try clear c4b0
 try clear c4b1
 try clear hcz6_0
 try clear hcz6_1
 try clear hfz6_0
 try clear hfz6_1
 obtain ⟨x5_1, x13_1, rfl, HA, HK1, HO_5, BK210, HB⟩ := hrel
 cases gk with
 | zero => exact absurd HA.out (by simp [impl_Field_fold.l0])
 | succ k1 =>
  have H := HA.out
  clear HA
  simp only [impl_Field_fold.l0] at H
  by_cases c9 : x13_1 < (l1.length : Int)
  rotate_left
  ·rw [if_neg c9] at H
   have c9b0 := decide_eq_false c9
   clear c9
   obtain ⟨t217, A21, H⟩ := qBd H
   obtain rfl := Option.some.inj H
   obtain ⟨Ao22, co22, eo22⟩ := Kd.R_slice HO_5.out
   subst eo22
   go_wp2_with (first | ((with_reducible refine gQc (f := 31) rfl ?_); refine goesL_ (some 30) rfl rfl Try.func31 (by kernel_rfl) rfl #[.slice Ao22 x5_1.length co22] rfl tL ?_; (with_reducible refine (impl_trim.calls k1 (fun k_ => some k_ = (.slice Ao22 x5_1.length co22 : Value).ownBlock) (.slice Ao22 x5_1.length co22) x5_1 t217 w _ ?s1 ?s2 A21.out).mono ?_); (case s1 => exact tB); (case s2 => exact Kd.R_tight rfl HO_5.out); rintro e w23 ⟨v218, rfl, ho0, hb, hkp⟩; refine ⟨_, rfl, ?_⟩; refine qM3 (blk_kept (tG BK210.out) hkp (fun hs_ => (fun e_ => (Kd.R_ne HO_5.out BK210.out (by decide)) e_) hs_)) (Kd.R_mono (ok' := fun k_ => True) ho0 (fun k_ hk_ => trivial)) hb ?_; clear BK210 HB HO_5; intro BK210 HO219 HB; (try clear hb); (try clear hkp); (try clear ho0)))
   go_ret
   exact ⟨_, tE, tR HO219.out, tB⟩
  rw [if_pos c9] at H
  have c9b0 := decide_eq_true c9
  clear c9
  by_cases c10 : 0 ≤ x13_1
  rotate_left
  ·rw [if_neg c10] at H
   exact absurd H (by simp)
  rw [if_pos c10] at H
  have c10b0 := decide_eq_true c10
  clear c10
  by_cases c11 : x13_1 < (l1.length : Int)
  rotate_left
  ·rw [if_neg c11] at H
   exact absurd H (by simp)
  rw [if_pos c11] at H
  have c11b0 := decide_eq_true c11
  clear c11
  by_cases c12 : a0_0 = 0
  ·rw [if_pos c12] at H
   exact absurd H (by simp)
  rw [if_neg c12] at H
  have c12b0 := beq_eq_false_iff_ne.mpr c12
  have c12b1 := bne_iff_ne.mpr c12
  obtain ⟨ji13, hji13⟩ : ∃ j_ : Int, (Int.tmod x13_1 a0_0) = j_ := ⟨_, rfl⟩
  first | rw [hji13] at H | simp only [hji13] at H | skip
  by_cases c14 : 0 ≤ (ji13)
  rotate_left
  ·rw [if_neg c14] at H
   exact absurd H (by simp)
  rw [if_pos c14] at H
  have c14b0 := decide_eq_true c14
  clear c14
  by_cases c15 : (ji13) < (x5_1.length : Int)
  rotate_left
  ·rw [if_neg c15] at H
   exact absurd H (by simp)
  rw [if_pos c15] at H
  have c15b0 := decide_eq_true c15
  clear c15
  obtain ⟨y216, hy216⟩ : ∃ y_ : List Int, y_ = (x5_1.set ((ji13) : Int).toNat (Go.bits .xor .i64 (rd x5_1 (ji13)) (rd l1 x13_1))) := ⟨_, rfl⟩
  replace H : (impl_Field_fold.l0 k1 y216 l1 (l1.length : Int) (wrap64 (x13_1 + 1)) a0_0 a0_1) = some r := by first | (rw [hy216]; with_reducible exact H) | (have H2_ := (Option.bind_some _ _).symm.trans H; rw [hy216]; with_reducible exact H2_) | (have H2_ := (Option.bind_some _ _).symm.trans H; with_reducible exact H2_) | with_reducible exact H | (rw [hy216]; exact H) | exact H
  have Ny216 := Aq.mk hy216
  clear hy216
  replace H' := Aq.mk H
  clear H
  have p214 : 0 ≤ (x13_1 : Int) := of_decide_eq_true tA
  have q214 : x13_1 < (l1.length : Int) := of_decide_eq_true tA
  obtain ⟨ad214, e214, hx214_0⟩ := Kd.at_int HR1.out x13_1 p214 q214
  cases e214
  replace hx214_0 := (HB.out.cell (World.block_lt_of_cell? w _ hx214_0)).trans hx214_0
  replace p214 := eq_true p214
  replace q214 := eq_true q214
  have hcz17_0 : wr.cell? ⟨gb210, 0, none⟩ = some (.int .i64 a0_0) := (kQC BK210.out 0).trans rfl
  have hcz17_1 : wr.cell? ⟨gb210, 1, none⟩ = some (.int .i64 a0_1) := (kQC BK210.out 1).trans rfl
  have hfz17_0 := kQF BK210.out 0
  have hfz17_1 := kQF BK210.out 1
  obtain ⟨Ao18, co18, eo18⟩ := Kd.R_slice HO_5.out
  subst eo18
  have p215 : 0 ≤ ((ji13) : Int) := of_decide_eq_true tA
  have q215 : (ji13) < (x5_1.length : Int) := of_decide_eq_true tA
  obtain ⟨ad215, e215, hx215_0⟩ := Kd.at_int (Kd.R_reads' HO_5.out).2.2 (ji13) p215 q215
  cases e215
  replace p215 := eq_true p215
  replace q215 := eq_true q215
  have p16 : 0 ≤ ((ji13) : Int) := of_decide_eq_true tA
  have q16 : ((ji13) : Int) < ((x5_1.length : Int) : Int) := of_decide_eq_true tA
  obtain ⟨go16, co16, eo16, gb16, gl16, cl16, HG16⟩ := Kd.R_form HO_5.out (by omega)
  (first | cases eo16 | (injection eo16 with ea_ en_ ec_; (first | subst ea_ | (injection ea_ with ea_; subst ea_)); subst ec_; clear en_))
  have GB16 := Aq.mk gb16
  have GG16 := Aq.mk HG16
  clear gb16 gl16 HG16
  (first | simp only [add_plain] at hx215_0 | skip)
  obtain ⟨hx16_0, hf16_0⟩ := Kd.R_celln 0 HO_5.out ((ji13) : Int) p16 q16
  replace p16 := eq_true p16
  replace q16 := eq_true q16
  have HP19 := Kd.R_putg HO_5.out ((ji13) : Int) (Go.bits .xor .i64 (rd x5_1 (ji13)) (rd l1 x13_1))
  go_wp2_with (first | ((with_reducible refine gate_store (t := 2) (p := 27) rfl ?_); refine store_event (t := 2) (p := 27) (v := ?vo_w20) (w1 := (wr.setCell ⟨go16, ((ji13) : Int).toNat, none⟩ (.int .i64 (Go.bits .xor .i64 (rd x5_1 (ji13)) (rd l1 x13_1))))) ?hg ?ho ?hn ?hr ?_; (case ho => rfl); (case hg => rfl); (case hn => rfl); (case hr => exact tH); intro w20 hw; have hg : wr.grownBy w20 (some go16) := (by rw [hw]; exact HP19.2); have hp_ : Kd.R (Kd.int .i64) 2 w20 w.heap.size (fun _ => True) (.slice (some ⟨go16, 0, none⟩) x5_1.length co18) y216 := (by rw [hw, Ny216.out]; exact HP19.1); clear HP19; refine qM3 hp_ (blk_grown (g := gb210) (o := .cells #[.int .i64 a0_0, .int .i64 a0_1] 27 (0, 0)) (tG BK210.out) hg (Kd.R_ne HO_5.out BK210.out (by decide))) ((by rw [hw]; exact bQS (HB.out) GB16.out : Below w.heap.size w w20)) ?_; clear HO_5 BK210 HB; intro HO_5 BK210 HB; clear hg hw hp_))
  go_roundg k1
  case measure => have := HK1.out; omega
  case rel => exact ⟨(y216), (wrap64 (x13_1 + 1)), tS, H', ⟨by have := HK1.out; omega⟩, ⟨tR HO_5.out⟩, ⟨tG BK210.out⟩, ⟨tB⟩⟩
end Go.Proofs.Ytpigghpimgkilaa.P
