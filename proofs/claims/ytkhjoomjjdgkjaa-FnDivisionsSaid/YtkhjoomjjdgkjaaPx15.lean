/- Functions of the program and what they tell, as the printing program wrote it. -/
import Derived.Test.YtkhjoomjjdgkjaaPx0
import Derived.Test.YtkhjoomjjdgkjaaPx2
import Derived.Test.YtkhjoomjjdgkjaaPx10
import Derived.Test.YtkhjoomjjdgkjaaPx11
namespace Go.Proofs.Ytkhjoomjjdgkjaa.P
open Go.Shelf Go.RowKit Go.Proofs.YtkhjoomjjdgkjaaW.PrintWords Go.Proofs.YtkhjoomjjdgkjaaW.PrintLast Go.Proofs.YtkhjoomjjdgkjaaW.PrintMore
attribute [local go_sem] max2_int min2_int max_two min_two max_three min_three max_four min_four
set_option linter.unusedVariables false
set_option linter.unusedSimpArgs false
set_option maxHeartbeats 8000000
set_option maxRecDepth 100000
def spec_l03Right.l0 : Nat → List Int → List Int → List Int → Int → Int → Int → Option (List Int × List Int)
  | 0, _, _, _, _, _, _ => none
  | k + 1, x2, x8, x9, x10, x183000, x183001 => if (x9.length : Int) ≥ (x2.length : Int) then (if 0 ≤ (wrap64 ((x9.length : Int) - 1)) then (if (wrap64 ((x9.length : Int) - 1)) < (x9.length : Int) then ((spec_l01Square.f k x183000 x183001 x10 (wrap64 ((x9.length : Int) - (x2.length : Int)))).bind fun t191 => ((spec_l01Inverse.f k x183000 x183001 t191).bind fun t192 => ((spec_l01Mul.f k x183000 x183001 (rd x9 (wrap64 ((x9.length : Int) - 1))) t192).bind fun t193 => ((spec_l03Term.f t193 (wrap64 ((x9.length : Int) - (x2.length : Int)))).bind fun t194 => ((spec_l03Sum.f k x8 t194).bind fun t197 => ((spec_l03Compose.f k x183000 x183001 t194 x2).bind fun t200 => ((spec_l03Sum.f k x9 t200).bind fun t203 => (spec_l03Right.l0 k x2 t197 t203 x10 x183000 x183001)))))))) else (none)) else (none)) else (some (x8, x9))
def spec_l03Right.f (k : Nat) (a0_0 : Int) (a0_1 : Int) (l1 : List Int) (l2 : List Int) : Option (List Int × List Int) := (spec_l00Own.f l1).bind fun t186 => (if 0 ≤ (wrap64 ((l2.length : Int) - 1)) then (if (wrap64 ((l2.length : Int) - 1)) < (l2.length : Int) then (spec_l03Right.l0 k l2 (([] : List Int)) t186 (rd l2 (wrap64 ((l2.length : Int) - 1))) a0_0 a0_1) else (none)) else (none))
theorem spec_l03Right.mono_l : ∀ k, (∀ y0 y1 y2 y3 y4 y5, LeO (spec_l03Right.l0 k y0 y1 y2 y3 y4 y5) (spec_l03Right.l0 (k + 1) y0 y1 y2 y3 y4 y5))
 | 0 => fun _ _ _ _ _ _ r h => by simp [spec_l03Right.l0] at h
 | k + 1 => by
  have ih0 := spec_l03Right.mono_l k
  ·intro y0 y1 y2 y3 y4 y5
   unfold spec_l03Right.l0
   repeat' first
   | (with_reducible first | apply ih0 | apply spec_l01Inverse.mono | apply spec_l01Mul.mono | apply spec_l01Square.mono | apply spec_l03Compose.mono | apply spec_l03Sum.mono | exact LeO.refl _ | exact LeO.none _ | refine LeO.ite ?_ ?_ | refine LeO.bind ?_ (fun _ => ?_))
   | exact LeO.none _
   | refine LeO.ite ?_ ?_
   | refine LeO.bind ?_ (fun _ => ?_)
theorem spec_l03Right.mono : ∀ a0 a1 a2 a3 k, LeO (spec_l03Right.f k a0 a1 a2 a3) (spec_l03Right.f (k + 1) a0 a1 a2 a3) := by
 intro a0 a1 a2 a3 k
 have ih0 := spec_l03Right.mono_l k
 unfold spec_l03Right.f
 repeat' first
  | (with_reducible first | apply ih0 | apply spec_l01Inverse.mono | apply spec_l01Mul.mono | apply spec_l01Square.mono | apply spec_l03Compose.mono | apply spec_l03Sum.mono | exact LeO.refl _ | exact LeO.none _ | refine LeO.ite ?_ ?_ | refine LeO.bind ?_ (fun _ => ?_))
  | exact LeO.none _
  | refine LeO.ite ?_ ?_
  | refine LeO.bind ?_ (fun _ => ?_)
def spec_l03Right.T6 : Bool × List (List Nat × List Nat) := (true, [([], []), ([], []), ([], []), ([2], [2]), ([3], [3]), ([1, 4], [1, 4]), ([5], [5]), ([], []), ([], []), ([], []), ([], []), ([8, 9, 10], [8, 9, 10]), ([7, 11, 11], [7, 11]), ([0, 6, 12, 12], [0, 6, 12]), ([13, 13, 0, 1, 2, 3, 4, 5, 6, 7, 8, 9, 10, 11, 12, 13], [13])])
def spec_l03Right.B6 : List Nat := [0, 0, 0, 4, 12, 30, 62, 0, 0, 0, 0, 1792, 3968, 8191, 16383]
theorem spec_l03Right.tab6 : rtab .any (opsOf Try.f33 6) = spec_l03Right.T6 := by kernel_rfl
theorem spec_l03Right.bits6 : waitsOk spec_l03Right.T6.2 spec_l03Right.B6 = true := by kernel_rfl
theorem spec_l03Right.calls (k : Nat) (a0_0 : Int) (a0_1 : Int) (A1 : Option Addr) (c1 : Nat) (l1 : List Int) (A2 : Option Addr) (c2 : Nat) (l2 : List Int) (r1 : List Int) (r2 : List Int) (w : World) (hr1 : Kd.C (Kd.int .i64) w A1 l1.length l1) (hc1 : l1.length ≤ c1) (hr2 : Kd.C (Kd.int .i64) w A2 l2.length l2) (hc2 : l2.length ≤ c2) (h : spec_l03Right.f k a0_0 a0_1 l1 l2 = some (r1, r2)) :
 Calls Try.prog 33 #[.agg #[.int .i64 a0_0, .int .i64 a0_1], .slice A1 l1.length c1, .slice A2 l2.length c2] w fun e w' => ∃ v0_ v1_ : Value, e = .returned (.tuple #[v0_, v1_]) ∧ Kd.R (Kd.int .i64) 2 w' w.heap.size (fun k_ => some k_ ≠ (v1_ : Value).ownBlock) v0_ r1 ∧ Kd.R (Kd.int .i64) 2 w' w.heap.size (fun k_ => some k_ ≠ (v0_ : Value).ownBlock) v1_ r2 ∧ Below w.heap.size w w' := by
 have hu27 := Try.underlying27
 have HR1 := Aq.mk hr1
 have HC1 := Aq.mk hc1
 clear hr1 hc1
 have HR2 := Aq.mk hr2
 have HC2 := Aq.mk hc2
 clear hr2 hc2
 have HB := Aq.mk (Below.refl w.heap.size w)
 have H : ((spec_l00Own.f l1).bind fun t186 => (if 0 ≤ (wrap64 ((l2.length : Int) - 1)) then (if (wrap64 ((l2.length : Int) - 1)) < (l2.length : Int) then (spec_l03Right.l0 k l2 (([] : List Int)) t186 (rd l2 (wrap64 ((l2.length : Int) - 1))) a0_0 a0_1) else (none)) else (none))) = some (r1, r2) := h
 clear h
 obtain ⟨y183, hy183⟩ : ∃ y_ : List Int, y_ = (([] : List Int)) := ⟨_, rfl⟩
 replace H : ((spec_l00Own.f l1).bind fun t186 => (if 0 ≤ (wrap64 ((l2.length : Int) - 1)) then (if (wrap64 ((l2.length : Int) - 1)) < (l2.length : Int) then (spec_l03Right.l0 k l2 y183 t186 (rd l2 (wrap64 ((l2.length : Int) - 1))) a0_0 a0_1) else (none)) else (none))) = some (r1, r2) := by first | (rw [hy183]; with_reducible exact H) | (have H2_ := (Option.bind_some _ _).symm.trans H; rw [hy183]; with_reducible exact H2_) | (have H2_ := (Option.bind_some _ _).symm.trans H; with_reducible exact H2_) | with_reducible exact H | (rw [hy183]; exact H) | exact H
 have Ny183 := Aq.mk hy183
 clear hy183
 obtain ⟨t186, A4, H⟩ := qBd H
 obtain ⟨ji5, hji5⟩ : ∃ j_ : Int, (wrap64 ((l2.length : Int) - 1)) = j_ := ⟨_, rfl⟩
 first | rw [hji5] at H | simp only [hji5] at H | skip
 (try rw [hji5] at A4)
 have hji5w : (IntKind.i64.wrap ((l2.length : Int) - 1)) = ji5 := (i64_w _).trans hji5
 by_cases c6 : 0 ≤ (ji5)
 rotate_left
 ·rw [if_neg c6] at H
  exact absurd H (by simp)
 rw [if_pos c6] at H
 have c6b0 := decide_eq_true c6
 clear c6
 by_cases c7 : (ji5) < (l2.length : Int)
 rotate_left
 ·rw [if_neg c7] at H
  exact absurd H (by simp)
 rw [if_pos c7] at H
 have c7b0 := decide_eq_true c7
 clear c7
 replace H' := Aq.mk H
 clear H
 go_enter Try.func33, Try.ntmps33
 go_wp2_with (first | ((with_reducible refine gQd (N := 3) rfl ?_); refine xQe ?hg (N := 3) ?hd (cs := #[.int .i64 a0_0, .int .i64 a0_1]) (t := 27) ?hr ?_; (case hd => rfl); (case hg => rfl); (case hr => exact tH); intro gb182 hg w8 hbox hb; refine qM4 (bQT tB hb) hbox (tZ w hg) (tZ w hg) ?_; clear HB; intro HB BK182 GW182 GE182; clear hb hbox hg) | ((with_reducible refine gQd (N := 14) rfl ?_); refine Kd.R_lit (Kd.int .i64) _ 2 ?hg (N := 14) ?hd (xs := ([] : List Int)) (inner := []) (ok := fun _ => True) (okp := fun _ => True) ?hr ?hp (fun _ hk => hk) trivial (Below.refl _ _) (Nat.le_refl _) (by simp) ?_; (case hd => rfl); (case hg => rfl); (case hr => exact tH); (case hp => exact (Reps.none _ _)); intro v184 w9 ho10 hb hg_ hnew_; clear hg_ hnew_; (first | rw [← Ny183.out] at ho10 | (simp only [Int.reduceToNat] at ho10; rw [← Ny183.out] at ho10)); refine qM3 (Kd.R_lower ho10 (bQZ tB)) (tQ BK182.out hb) (bQT tB hb) ?_; clear BK182 HB; intro HO185 BK182 HB; clear hb ho10) | ((with_reducible refine gQc (f := 60) rfl ?_); refine goesL_ (some 16) rfl rfl Try.func60 (by kernel_rfl) rfl #[.slice A1 l1.length c1] rfl tL ?_; (with_reducible refine (spec_l00Own.calls _ _ l1 t186 _ ?s1 ?s2 A4.out).mono ?_); (case s1 => exact tC ((Kd.C_below HR1.out HB.out))); (case s2 => exact HC1.out); rintro e w11 ⟨v187, rfl, ho0, hb⟩; refine ⟨_, rfl, ?_⟩; refine qM4 (Kd.R_elder' (tR HO185.out) (Kd.R_base ho0) hb) (Kd.R_lower (Kd.R_new' ho0 (Kd.R_lt (tR HO185.out))) (bQZ tB)) (tQ BK182.out hb) (bQT tB hb) ?_; clear HO185 BK182 HB; intro HO185 HO188 BK182 HB; (try clear hb); (try clear hb2); (try clear hk); (try clear hi); (try clear ho0); have p189 : 0 ≤ ((ji5) : Int) := of_decide_eq_true tA; have q189 : (ji5) < (l2.length : Int) := of_decide_eq_true tA; obtain ⟨ad189, e189, hx189_0⟩ := Kd.at_int HR2.out (ji5) p189 q189; cases e189; replace hx189_0 := (HB.out.cell (World.block_lt_of_cell? w _ hx189_0)).trans hx189_0; replace p189 := eq_true p189; replace q189 := eq_true q189))
 go_loopg [8, 9] k (fun kq v8 v9 w' => ∃ (x8_1 : List Int) (x9_1 : List Int), Aq (spec_l03Right.l0 kq l2 x8_1 x9_1 (rd l2 (ji5)) a0_0 a0_1 = some (r1, r2)) ∧ Aq (kq ≤ k) ∧ Aq (Kd.R (Kd.int .i64) 2 w' w.heap.size (fun k_ => some k_ ≠ (v9 : Value).ownBlock) v8 x8_1) ∧ Aq (Kd.R (Kd.int .i64) 2 w' w.heap.size (fun k_ => some k_ ≠ (v8 : Value).ownBlock) v9 x9_1) ∧ Aq (w'.heap[gb182]? = some (.cells #[.int .i64 a0_0, .int .i64 a0_1] 27 (0, 0))) ∧ Aq (Below w.heap.size w w'))
 case atStart => exact ⟨(y183), (t186), H', ⟨Nat.le_refl _⟩, ⟨by (with_reducible repeat (first | apply Kd.RqA | apply Kd.RqN | apply Kd.RqD)); exact Kd.R_mono HO185.out (fun _ hk => hk.2)⟩, ⟨by (with_reducible repeat (first | apply Kd.RqA | apply Kd.RqN | apply Kd.RqD)); exact Kd.R_mono HO188.out (fun _ hk => hk.2)⟩, ⟨tG BK182.out⟩, ⟨tB⟩⟩
 clear H'
 try clear c1
 try clear c2
 try clear c6
 try clear c6b0
 try clear c7
 try clear c7b0
 try clear hx189_0
 try clear p189
 try clear q189
 obtain ⟨x8_1, x9_1, HA, HK1, HO_8, HO_9, BK182, HB⟩ := hrel
 cases gk with
 | zero => exact absurd HA.out (by simp [spec_l03Right.l0])
 | succ k1 =>
  have H := HA.out
  clear HA
  simp only [spec_l03Right.l0] at H
  by_cases c12 : (x9_1.length : Int) ≥ (l2.length : Int)
  rotate_left
  ·rw [if_neg c12] at H
   have c12b0 := decide_eq_false c12
   have c12b1 : decide (l2.length ≤ x9_1.length) = false := decide_eq_false (fun h => c12 (Int.ofNat_le.mpr h))
   clear c12
   simp only [Option.some.injEq, Prod.mk.injEq] at H
   obtain ⟨rfl, rfl⟩ := H
   obtain ⟨Ao36, co36, eo36⟩ := Kd.R_slice HO_9.out
   subst eo36
   go_wp2
   go_ret2
   exact ⟨_, _, by first | rfl | (simp [errW_none, errW_some] <;> rfl) | (simp only [← hji5]; first | rfl | (simp [errW_none, errW_some] <;> rfl)) | (simp [*, errW_none, errW_some] <;> rfl), tR HO_8.out, tR HO_9.out, tB⟩
  rw [if_pos c12] at H
  have c12b0 := decide_eq_true c12
  have c12b1 : decide (l2.length ≤ x9_1.length) = true := decide_eq_true (Int.ofNat_le.mp c12)
  clear c12
  obtain ⟨ji13, hji13⟩ : ∃ j_ : Int, (wrap64 ((x9_1.length : Int) - 1)) = j_ := ⟨_, rfl⟩
  first | rw [hji13] at H | simp only [hji13] at H | skip
  have hji13w : (IntKind.i64.wrap ((x9_1.length : Int) - 1)) = ji13 := (i64_w _).trans hji13
  by_cases c14 : 0 ≤ (ji13)
  rotate_left
  ·rw [if_neg c14] at H
   exact absurd H (by simp)
  rw [if_pos c14] at H
  have c14b0 := decide_eq_true c14
  clear c14
  by_cases c15 : (ji13) < (x9_1.length : Int)
  rotate_left
  ·rw [if_neg c15] at H
   exact absurd H (by simp)
  rw [if_pos c15] at H
  have c15b0 := decide_eq_true c15
  clear c15
  obtain ⟨t191, A16, H⟩ := qBd H
  obtain ⟨t192, A17, H⟩ := qBd H
  obtain ⟨t193, A18, H⟩ := qBd H
  obtain ⟨t194, A19, H⟩ := qBd H
  obtain ⟨t197, A20, H⟩ := qBd H
  obtain ⟨t200, A21, H⟩ := qBd H
  obtain ⟨t203, A22, H⟩ := qBd H
  replace H' := Aq.mk H
  clear H
  obtain ⟨Ao23, co23, eo23⟩ := Kd.R_slice HO_9.out
  subst eo23
  try go_wp2
  have n0_ := Aq.mk (Kd.RqD HO_8.out)
  have n1_ := Aq.mk (Kd.RqD HO_9.out)
  have n2_ := Aq.mk (kQD BK182.out)
  have n3_ := Aq.mk (bQ1 HB.out)
  clear HO_8
  clear HO_9
  clear BK182
  clear HB
  have HO_8 := n0_
  have HO_9 := n1_
  have BK182 := n2_
  have HB := n3_
  clear n0_ n1_ n2_ n3_
  have p190 : 0 ≤ ((ji13) : Int) := of_decide_eq_true tA
  have q190 : (ji13) < (x9_1.length : Int) := of_decide_eq_true tA
  obtain ⟨ad190, e190, hx190_0⟩ := Kd.at_int (Kd.R_reads' HO_9.out).2.2 (ji13) p190 q190
  cases e190
  replace p190 := eq_true p190
  replace q190 := eq_true q190
  refine start_ (n := 15) (S := fun w' => w'.cell? ⟨gb182, 0, none⟩ = some (.int .i64 a0_0) ∧ w'.cell? ⟨gb182, 1, none⟩ = some (.int .i64 a0_1) ∧ w'.cell? (ad190.add ((ji13)).toNat) = some (.int .i64 (rd x9_1 (ji13)))) (ds := []) #[false, false, false, false, false, false, false, false, false, false, false, false, false, false, false] (by kernel_rfl) rfl rfl ⟨(kQC BK182.out 0).trans rfl, (kQC BK182.out 1).trans rfl, hx190_0⟩ (fun hHeld => ?_); refine with_tabW spec_l03Right.tab6 spec_l03Right.bits6 (fun HT_ HW_ => ?_)
  generalize wr.drew = w24 at HO_8 HO_9 BK182 HB hx190_0 hHeld ⊢
  refine tP0 1 34 (bm 15 2) ?_
  refine tP0 2 35 (bm 15 6) ?_
  refine tP0 3 36 (bm 15 14) ?_
  refine tP0 4 37 (bm 15 30) ?_
  refine tP0 5 38 (bm 15 62) ?_
  refine tP0 9 42 (bm 15 574) ?_
  refine tP0 10 43 (bm 15 1598) ?_
  refine tT3 0 33 (bm 15 1599) ?_
  refine tT3 6 39 (bm 15 1663) ?_
  refine tT3 7 40 (bm 15 1791) ?_
  refine tT3 8 41 (bm 15 2047) ?_
  refine one_ (i := 11) (N := some 44) (bm 15 4095) rfl rfl (one_of HT_.out (by kernel_rfl)) (by decide) (fun K hK => ?_)
  refine goes_ Try.func63 (by kernel_rfl) rfl #[.agg #[.int .i64 a0_0, .int .i64 a0_1], .int .i64 (rd l2 (ji5)), .int .i64 (wrap64 ((x9_1.length : Int) - (l2.length : Int)))] (by rfl) rfl rfl (by (try simp only [List.map_toArray, List.map_cons, List.map_nil]); first | done | (simp only [hji5]; rfl) | rfl | (simp only [List.length_drop, List.length_take]; rfl)) ?_
  with_reducible refine (spec_l01Square.calls k1 a0_0 a0_1 (rd l2 (ji5)) (wrap64 ((x9_1.length : Int) - (l2.length : Int))) t191 _ A16.out).mono ?_
  rintro e w25 ⟨rfl, hb⟩
  have HS2_ := (hb.cell (World.block_lt_of_cell? _ _ (hHeld.2.2))).trans (hHeld.2.2)
  refine ⟨_, rfl, ?_⟩
  have n0_ := Aq.mk (Kd.R_below (tR HO_8.out) hb)
  have n1_ := Aq.mk (Kd.R_below (tR HO_9.out) hb)
  have n2_ := Aq.mk (tQ BK182.out hb)
  have n3_ := Aq.mk (bQT tB hb)
  clear HO_8
  clear HO_9
  clear BK182
  clear HB
  have HO_8 := n0_
  have HO_9 := n1_
  have BK182 := n2_
  have HB := n3_
  clear n0_ n1_ n2_ n3_
  (try clear hb)
  (try clear hb2)
  (try clear hk)
  (try clear hi)
  refine hK.out _ _ ⟨(kQC BK182.out 0).trans rfl, (kQC BK182.out 1).trans rfl, HS2_⟩ (fun hHeld => ?_)
  clear hK K
  refine tN 44 ?_
  refine one_ (i := 12) (N := some 45) (bm 15 8191) rfl rfl (one_of HT_.out (by kernel_rfl)) (by decide) (fun K hK => ?_)
  refine goes_ Try.func62 (by kernel_rfl) rfl #[.agg #[.int .i64 a0_0, .int .i64 a0_1], .int .i64 t191] (by rfl) rfl rfl tL ?_
  with_reducible refine (spec_l01Inverse.calls k1 a0_0 a0_1 t191 t192 _ A17.out).mono ?_
  rintro e w26 ⟨rfl, hb⟩
  have HS2_ := (hb.cell (World.block_lt_of_cell? _ _ (hHeld.2.2))).trans (hHeld.2.2)
  refine ⟨_, rfl, ?_⟩
  have n0_ := Aq.mk (Kd.R_below (tR HO_8.out) hb)
  have n1_ := Aq.mk (Kd.R_below (tR HO_9.out) hb)
  have n2_ := Aq.mk (tQ BK182.out hb)
  have n3_ := Aq.mk (bQT tB hb)
  clear HO_8
  clear HO_9
  clear BK182
  clear HB
  have HO_8 := n0_
  have HO_9 := n1_
  have BK182 := n2_
  have HB := n3_
  clear n0_ n1_ n2_ n3_
  (try clear hb)
  (try clear hb2)
  (try clear hk)
  (try clear hi)
  refine hK.out _ _ ⟨(kQC BK182.out 0).trans rfl, (kQC BK182.out 1).trans rfl, HS2_⟩ (fun hHeld => ?_)
  clear hK K
  refine tN 45 ?_
  refine one_ (i := 13) (N := some 46) (bm 15 16383) rfl rfl (one_of HT_.out (by kernel_rfl)) (by decide) (fun K hK => ?_)
  refine goes_ Try.func61 (by kernel_rfl) rfl #[.agg #[.int .i64 a0_0, .int .i64 a0_1], .int .i64 (rd x9_1 (ji13)), .int .i64 t192] (by rfl) rfl rfl (by (try simp only [List.map_toArray, List.map_cons, List.map_nil]); first | done | (simp only [hji13]; rfl) | rfl | (simp only [List.length_drop, List.length_take]; rfl)) ?_
  with_reducible refine (spec_l01Mul.calls k1 a0_0 a0_1 (rd x9_1 (ji13)) t192 t193 _ A18.out).mono ?_
  rintro e w27 ⟨rfl, hb⟩
  have HS2_ := (hb.cell (World.block_lt_of_cell? _ _ (hHeld.2.2))).trans (hHeld.2.2)
  refine ⟨_, rfl, ?_⟩
  have n0_ := Aq.mk (Kd.R_below (tR HO_8.out) hb)
  have n1_ := Aq.mk (Kd.R_below (tR HO_9.out) hb)
  have n2_ := Aq.mk (tQ BK182.out hb)
  have n3_ := Aq.mk (bQT tB hb)
  clear HO_8
  clear HO_9
  clear BK182
  clear HB
  have HO_8 := n0_
  have HO_9 := n1_
  have BK182 := n2_
  have HB := n3_
  clear n0_ n1_ n2_ n3_
  (try clear hb)
  (try clear hb2)
  (try clear hk)
  (try clear hi)
  refine hK.out _ _ ⟨(kQC BK182.out 0).trans rfl, (kQC BK182.out 1).trans rfl, HS2_⟩ (fun hHeld => ?_)
  clear hK K
  refine tN 46 ?_
  refine tP0 14 12 (bm 15 32767) ?_
  refine done_ (done_of HT_.out (by kernel_rfl)) ?_
  try go_wp2_with (first | ((with_reducible refine gQc (f := 64) rfl ?_); refine goesL_ (some 49) rfl rfl Try.func64 (by kernel_rfl) rfl #[.int .i64 t193, .int .i64 (wrap64 ((x9_1.length : Int) - (l2.length : Int)))] rfl tL ?_; (with_reducible refine (spec_l03Term.calls t193 (wrap64 ((x9_1.length : Int) - (l2.length : Int))) t194 _ A19.out).mono ?_); rintro e w28 ⟨v195, rfl, ho0, hb⟩; refine ⟨_, rfl, ?_⟩; refine qM5 (Kd.R_elder' (tR HO_8.out) (Kd.R_base ho0) hb) (Kd.R_elder' (tR HO_9.out) (Kd.R_base ho0) hb) (Kd.R_lower (Kd.R_new' (Kd.R_new' ho0 (Kd.R_lt (tR HO_8.out))) (Kd.R_lt (tR HO_9.out))) (bQZ tB)) (tQ BK182.out hb) (bQT tB hb) ?_; clear HO_8 HO_9 BK182 HB; intro HO_8 HO_9 HO196 BK182 HB; (try clear hb); (try clear hb2); (try clear hk); (try clear hi); (try clear ho0); obtain ⟨Ao29, co29, eo29⟩ := Kd.R_slice HO_8.out; subst eo29; obtain ⟨Ao30, co30, eo30⟩ := Kd.R_slice HO196.out; subst eo30) | ((with_reducible refine gQc (f := 65) rfl ?_); refine goesL_ (some 52) rfl rfl Try.func65 (by kernel_rfl) rfl #[.slice Ao29 x8_1.length co29, .slice Ao30 t194.length co30] rfl tL ?_; (with_reducible refine (spec_l03Sum.calls k1 _ _ x8_1 _ _ t194 t197 _ ?s1 ?s2 ?s3 ?s4 A20.out).mono ?_); (case s1 => exact tC ((Kd.R_reads' HO_8.out).2.2)); (case s2 => exact (Kd.R_reads' HO_8.out).2.1); (case s3 => exact tC ((Kd.R_reads' HO196.out).2.2)); (case s4 => exact (Kd.R_reads' HO196.out).2.1); rintro e w31 ⟨v198, rfl, ho0, hb⟩; refine ⟨_, rfl, ?_⟩; refine qM6 (Kd.R_elder' (tR HO_8.out) (Kd.R_base ho0) hb) (Kd.R_elder' (tR HO_9.out) (Kd.R_base ho0) hb) (Kd.R_elder' (tR HO196.out) (Kd.R_base ho0) hb) (Kd.R_lower (Kd.R_new' (Kd.R_new' (Kd.R_new' ho0 (Kd.R_lt (tR HO_8.out))) (Kd.R_lt (tR HO_9.out))) (Kd.R_lt (tR HO196.out))) (bQZ tB)) (tQ BK182.out hb) (bQT tB hb) ?_; clear HO_8 HO_9 HO196 BK182 HB; intro HO_8 HO_9 HO196 HO199 BK182 HB; (try clear hb); (try clear hb2); (try clear hk); (try clear hi); (try clear ho0); have hcz32_0 : w31.cell? ⟨gb182, 0, none⟩ = some (.int .i64 a0_0) := (kQC BK182.out 0).trans rfl; have hcz32_1 : w31.cell? ⟨gb182, 1, none⟩ = some (.int .i64 a0_1) := (kQC BK182.out 1).trans rfl; have hfz32_0 := kQF BK182.out 0; have hfz32_1 := kQF BK182.out 1) | ((with_reducible refine gQc (f := 66) rfl ?_); refine goesL_ (some 57) rfl rfl Try.func66 (by kernel_rfl) rfl #[.agg #[.int .i64 a0_0, .int .i64 a0_1], .slice Ao30 t194.length co30, .slice (some ad189) l2.length c2] rfl tL ?_; (with_reducible refine (spec_l03Compose.calls k1 a0_0 a0_1 _ _ t194 _ _ l2 t200 _ ?s1 ?s2 ?s3 ?s4 A21.out).mono ?_); (case s1 => exact tC ((Kd.R_reads' HO196.out).2.2)); (case s2 => exact (Kd.R_reads' HO196.out).2.1); (case s3 => exact tC ((Kd.C_below HR2.out HB.out))); (case s4 => exact HC2.out); rintro e w33 ⟨v201, rfl, ho0, hb⟩; refine ⟨_, rfl, ?_⟩; refine qM7 (Kd.R_elder' (tR HO_8.out) (Kd.R_base ho0) hb) (Kd.R_elder' (tR HO_9.out) (Kd.R_base ho0) hb) (Kd.R_elder' (tR HO196.out) (Kd.R_base ho0) hb) (Kd.R_elder' (tR HO199.out) (Kd.R_base ho0) hb) (Kd.R_lower (Kd.R_new' (Kd.R_new' (Kd.R_new' (Kd.R_new' ho0 (Kd.R_lt (tR HO_8.out))) (Kd.R_lt (tR HO_9.out))) (Kd.R_lt (tR HO196.out))) (Kd.R_lt (tR HO199.out))) (bQZ tB)) (tQ BK182.out hb) (bQT tB hb) ?_; clear HO_8 HO_9 HO196 HO199 BK182 HB; intro HO_8 HO_9 HO196 HO199 HO202 BK182 HB; (try clear hb); (try clear hb2); (try clear hk); (try clear hi); (try clear ho0); obtain ⟨Ao34, co34, eo34⟩ := Kd.R_slice HO202.out; subst eo34) | ((with_reducible refine gQc (f := 65) rfl ?_); refine goesL_ (some 58) rfl rfl Try.func65 (by kernel_rfl) rfl #[.slice (some ad190) x9_1.length co23, .slice Ao34 t200.length co34] rfl tL ?_; (with_reducible refine (spec_l03Sum.calls k1 _ _ x9_1 _ _ t200 t203 _ ?s1 ?s2 ?s3 ?s4 A22.out).mono ?_); (case s1 => exact tC ((Kd.R_reads' HO_9.out).2.2)); (case s2 => exact (Kd.R_reads' HO_9.out).2.1); (case s3 => exact tC ((Kd.R_reads' HO202.out).2.2)); (case s4 => exact (Kd.R_reads' HO202.out).2.1); rintro e w35 ⟨v204, rfl, ho0, hb⟩; refine ⟨_, rfl, ?_⟩; refine qM8 (Kd.R_elder' (tR HO_8.out) (Kd.R_base ho0) hb) (Kd.R_elder' (tR HO_9.out) (Kd.R_base ho0) hb) (Kd.R_elder' (tR HO196.out) (Kd.R_base ho0) hb) (Kd.R_elder' (tR HO199.out) (Kd.R_base ho0) hb) (Kd.R_elder' (tR HO202.out) (Kd.R_base ho0) hb) (Kd.R_lower (Kd.R_new' (Kd.R_new' (Kd.R_new' (Kd.R_new' (Kd.R_new' ho0 (Kd.R_lt (tR HO_8.out))) (Kd.R_lt (tR HO_9.out))) (Kd.R_lt (tR HO196.out))) (Kd.R_lt (tR HO199.out))) (Kd.R_lt (tR HO202.out))) (bQZ tB)) (tQ BK182.out hb) (bQT tB hb) ?_; clear HO_8 HO_9 HO196 HO199 HO202 BK182 HB; intro HO_8 HO_9 HO196 HO199 HO202 HO205 BK182 HB; (try clear hb); (try clear hb2); (try clear hk); (try clear hi); (try clear ho0)))
  go_roundg k1
  case measure => have := HK1.out; omega
  case rel => exact ⟨(t197), (t203), H', ⟨by have := HK1.out; omega⟩, ⟨by (with_reducible repeat (first | apply Kd.RqA | apply Kd.RqN | apply Kd.RqD)); exact Kd.R_mono HO199.out (fun _ hk => hk.2)⟩, ⟨by (with_reducible repeat (first | apply Kd.RqA | apply Kd.RqN | apply Kd.RqD)); exact Kd.R_mono HO205.out (fun _ hk => hk.1.2)⟩, ⟨tG BK182.out⟩, ⟨tB⟩⟩
end Go.Proofs.Ytkhjoomjjdgkjaa.P
