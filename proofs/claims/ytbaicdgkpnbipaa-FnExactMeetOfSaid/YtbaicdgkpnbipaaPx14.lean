/- Printed functions. -/
import Derived.Test.YtbaicdgkpnbipaaPx0
import Derived.Test.YtbaicdgkpnbipaaPx1
import Derived.Test.YtbaicdgkpnbipaaPx2
namespace Go.Proofs.Ytbaicdgkpnbipaa.P
open Go.Shelf Go.RowKit Go.Proofs.YtbaicdgkpnbipaaW.PrintWords Go.Proofs.YtbaicdgkpnbipaaW.PrintLast Go.Proofs.YtbaicdgkpnbipaaW.PrintMore
attribute [local go_sem] max2_int min2_int max_two min_two max_three min_three max_four min_four
set_option linter.unusedVariables false
set_option linter.unusedSimpArgs false
def qa6.f (k : Nat) (a0_0 : Int) (l0_1 : List Int) (a1_0 : Int) (l1_1 : List Int) : Option (Int × List Int) := (qbf.f l0_1).bind fun t617 => (if t617.length + l1_1.length < 17592186044416 then ((qaa.f k a0_0 (t617 ++ l1_1)).bind fun t623 => (some (a0_0, t623))) else (none))
theorem qa6.mono : ∀ a0 a1 a2 a3 k, LeO (qa6.f k a0 a1 a2 a3) (qa6.f (k + 1) a0 a1 a2 a3) := by
 intro a0 a1 a2 a3 k
 unfold qa6.f
 repeat' first
  | (with_reducible first | exact qaa.mono _ _ _ | exact LeO.refl _ | exact LeO.none _ | refine LeO.ite ?_ ?_ | refine LeO.bind ?_ (fun _ => ?_))
  | exact LeO.none _
  | refine LeO.ite ?_ ?_
  | refine LeO.bind ?_ (fun _ => ?_)
def qa6.T1 : Bool × List (List Nat × List Nat) := (true, [([], []), ([0], [0]), ([1], [1]), ([2], [2]), ([], []), ([4], [4]), ([5], [5]), ([6], [6]), ([], []), ([8], [8]), ([9], [9]), ([10], [10]), ([11], [11]), ([], []), ([13], [13]), ([14], [14]), ([15], [15]), ([12, 16, 12], [12, 16]), ([7, 17, 17], [7, 17]), ([3, 18], [3, 18]), ([19, 18, 0, 1, 2, 3, 4, 5, 6, 7, 8, 9, 10, 11, 12, 13, 14, 15, 16, 17, 18, 19], [19])])
def qa6.B1 : List Nat := [0, 1, 3, 7, 0, 16, 48, 112, 0, 256, 768, 1792, 3840, 0, 8192, 24576, 57344, 130816, 262128, 524287, 1048575]
theorem qa6.tab1 : rtab .any (opsOf Try.f79 1) = qa6.T1 := by kernel_rfl
theorem qa6.bits1 : waitsOk qa6.T1.2 qa6.B1 = true := by kernel_rfl
set_option maxHeartbeats 8000000 in
set_option maxRecDepth 100000 in
theorem qa6.calls (k : Nat) (g0_0 : Addr) (a0_0 : Int) (A0_1 : Option Addr) (c0_1 : Nat) (l0_1 : List Int) (g1_0 : Addr) (a1_0 : Int) (A1_1 : Option Addr) (c1_1 : Nat) (l1_1 : List Int) (r1 : Int) (r2 : List Int) (w : World) (hr0_1 : Kd.C (Kd.int .i64) w A0_1 l0_1.length l0_1) (hc0_1 : l0_1.length ≤ c0_1) (hr1_1 : Kd.C (Kd.int .i64) w A1_1 l1_1.length l1_1) (hc1_1 : l1_1.length ≤ c1_1) (hb0_0 : AtC w g0_0 [.int .i64 a0_0, .slice A0_1 l0_1.length c0_1]) (hb1_0 : AtC w g1_0 [.int .i64 a1_0, .slice A1_1 l1_1.length c1_1]) (h : qa6.f k a0_0 l0_1 a1_0 l1_1 = some (r1, r2)) :
 Calls Try.prog 79 #[.pointer (some g0_0), .pointer (some g1_0)] w fun e w' => ∃ v1_ : Value, e = .returned (.agg #[.int .i64 r1, v1_]) ∧ Kd.R (Kd.int .i64) 2 w' w.heap.size (fun _ => True) v1_ r2 ∧ Below w.heap.size w w' := by
 have hu26 := Try.underlying26
 have HR0_1 := Aq.mk hr0_1
 have HC0_1 := Aq.mk hc0_1
 clear hr0_1 hc0_1
 have HR1_1 := Aq.mk hr1_1
 have HC1_1 := Aq.mk hc1_1
 clear hr1_1 hc1_1
 have BK40 := Aq.mk hb0_0
 clear hb0_0
 have BK48 := Aq.mk hb1_0
 clear hb1_0
 have HB := Aq.mk (Below.refl w.heap.size w)
 have H : ((qbf.f l0_1).bind fun t617 => (if t617.length + l1_1.length < 17592186044416 then ((qaa.f k a0_0 (t617 ++ l1_1)).bind fun t623 => (some (a0_0, t623))) else (none))) = some (r1, r2) := h
 clear h
 replace H := Option.bind_eq_some_iff.mp H
 obtain ⟨t617, A30, H⟩ := H
 replace H : (if t617.length + l1_1.length < 17592186044416 then ((qaa.f k a0_0 (t617 ++ l1_1)).bind fun t623 => (some (a0_0, t623))) else (none)) = some (r1, r2) := H
 have A3 := Aq.mk A30
 clear A30
 by_cases c4 : t617.length + l1_1.length < 17592186044416
 ·rw [if_pos c4] at H
  have LMc4 := Aq.mk c4
  clear c4
  obtain ⟨y620, hy620⟩ : ∃ y_ : List Int, y_ = (t617 ++ l1_1) := ⟨_, rfl⟩
  replace H : ((qaa.f k a0_0 y620).bind fun t623 => (some (a0_0, t623))) = some (r1, r2) := by first | (rw [hy620]; with_reducible exact H) | (have H2_ := (Option.bind_some _ _).symm.trans H; rw [hy620]; with_reducible exact H2_) | (have H2_ := (Option.bind_some _ _).symm.trans H; with_reducible exact H2_) | with_reducible exact H | (rw [hy620]; exact H) | exact H
  have Ny620 := Aq.mk hy620
  clear hy620
  replace H := Option.bind_eq_some_iff.mp H
  obtain ⟨t623, A50, H⟩ := H
  replace H : (some (a0_0, t623)) = some (r1, r2) := H
  have A5 := Aq.mk A50
  clear A50
  simp only [Option.some.injEq, Prod.mk.injEq] at H
  obtain ⟨rfl, rfl⟩ := H
  go_enter Try.func79, Try.ntmps79
  try go_wp2_with (first | ((with_reducible refine gQd (N := 4) rfl ?_); refine xQe ?hg (N := 4) ?hd (cs := #[.int .i64 0, .slice none 0 0]) (t := 26) ?hr ?_; (case hd => rfl); (case hg => rfl); (case hr => first | (go_simp; done) | (go_simp; rfl)); intro gb616 hg w6 hbox hb; have BK616 := Aq.mk (hbox); have GW616 := Aq.mk ((by rw [hg]; exact (bQZ (by repeat (with_reducible first | exact HB.out | apply bQA | apply bQN | apply bQ1))) : w.heap.size ≤ gb616)); have GE616 := Aq.mk ((by rw [hg]; exact (bQZ (by repeat (with_reducible first | exact HB.out | apply bQA | apply bQN | apply bQ1))) : w.heap.size ≤ gb616)); replace HB := Aq.mk (bQT (by repeat (with_reducible first | exact HB.out | apply bQA | apply bQN | apply bQ1)) hb); clear hb hbox hg))
  replace BK616 := Aq.mk (kQD BK616.out)
  replace HB := Aq.mk (bQ1 HB.out)
  refine start_ (n := 21) (S := fun w' => w'.cell? g0_0 = some (.int .i64 a0_0) ∧ w'.cell? ⟨g0_0.block, g0_0.off + 1, none⟩ = some (.slice A0_1 l0_1.length c0_1) ∧ w'.cell? g1_0 = some (.int .i64 a1_0) ∧ w'.cell? ⟨g1_0.block, g1_0.off + 1, none⟩ = some (.slice A1_1 l1_1.length c1_1)) (ds := []) #[false, false, false, false, false, false, false, false, false, false, false, false, false, false, false, false, false, false, false, false, false] (by kernel_rfl) rfl rfl ⟨((HB.out.cell (World.block_lt_of_cell? w _ (AtC.cell0 BK40.out _ rfl : w.cell? g0_0 = some (.int .i64 a0_0)))).trans (AtC.cell0 BK40.out _ rfl : w.cell? g0_0 = some (.int .i64 a0_0))), ((HB.out.cell (World.block_lt_of_cell? w _ (AtC.cell BK40.out 1 _ (by decide) rfl : w.cell? ⟨g0_0.block, g0_0.off + 1, none⟩ = some (.slice A0_1 l0_1.length c0_1)))).trans (AtC.cell BK40.out 1 _ (by decide) rfl : w.cell? ⟨g0_0.block, g0_0.off + 1, none⟩ = some (.slice A0_1 l0_1.length c0_1))), ((HB.out.cell (World.block_lt_of_cell? w _ (AtC.cell0 BK48.out _ rfl : w.cell? g1_0 = some (.int .i64 a1_0)))).trans (AtC.cell0 BK48.out _ rfl : w.cell? g1_0 = some (.int .i64 a1_0))), ((HB.out.cell (World.block_lt_of_cell? w _ (AtC.cell BK48.out 1 _ (by decide) rfl : w.cell? ⟨g1_0.block, g1_0.off + 1, none⟩ = some (.slice A1_1 l1_1.length c1_1)))).trans (AtC.cell BK48.out 1 _ (by decide) rfl : w.cell? ⟨g1_0.block, g1_0.off + 1, none⟩ = some (.slice A1_1 l1_1.length c1_1)))⟩ (fun hHeld => ?_); refine with_tabW qa6.tab1 qa6.bits1 (fun HT_ HW_ => ?_)
  generalize w6.drew = w7 at BK616 HB hHeld ⊢
  refine qbv (i := 0) (N := some 5) (v := ?_) (a' := ?_) #[true, false, false, false, false, false, false, false, false, false, false, false, false, false, false, false, false, false, false, false, false] rfl rfl (qbp HT_.out (by kernel_rfl)) (fun _ _ _ h => h) (Or.inl ⟨by rfl, ?_⟩) ?_ ?_
  rotate_left
  ·intro w'
   go_simp
   with_reducible rfl
  rotate_left
  ·simp only [Act.put, qSa, qSb, qSc, qbl, qbn]
   rfl
  refine qbv (i := 1) (N := some 6) (v := ?_) (a' := ?_) #[true, true, false, false, false, false, false, false, false, false, false, false, false, false, false, false, false, false, false, false, false] rfl rfl (qbp HT_.out (by kernel_rfl)) (fun _ _ _ h => h) (Or.inl ⟨by rfl, ?_⟩) ?_ ?_
  rotate_left
  ·intro w'
   go_simp
   with_reducible rfl
  rotate_left
  ·simp only [Act.put, qSa, qSb, qSc, qbl, qbn]
   rfl
  refine qbv (i := 2) (N := some 7) (v := ?_) (a' := ?_) #[true, true, true, false, false, false, false, false, false, false, false, false, false, false, false, false, false, false, false, false, false] rfl rfl (qbp HT_.out (by kernel_rfl)) (fun _ _ _ h => h) (Or.inl ⟨by rfl, ?_⟩) ?_ ?_
  rotate_left
  ·intro w'
   go_simp
   with_reducible rfl
  rotate_left
  ·simp only [Act.put, qSa, qSb, qSc, qbl, qbn]
   rfl
  refine qbv (i := 4) (N := some 9) (v := ?_) (a' := ?_) #[true, true, true, false, true, false, false, false, false, false, false, false, false, false, false, false, false, false, false, false, false] rfl rfl (qbp HT_.out (by kernel_rfl)) (fun _ _ _ h => h) (Or.inl ⟨by rfl, ?_⟩) ?_ ?_
  rotate_left
  ·intro w'
   go_simp
   with_reducible rfl
  rotate_left
  ·simp only [Act.put, qSa, qSb, qSc, qbl, qbn]
   rfl
  refine qbv (i := 5) (N := some 10) (v := ?_) (a' := ?_) #[true, true, true, false, true, true, false, false, false, false, false, false, false, false, false, false, false, false, false, false, false] rfl rfl (qbp HT_.out (by kernel_rfl)) (fun _ _ _ h => h) (Or.inl ⟨by rfl, ?_⟩) ?_ ?_
  rotate_left
  ·intro w'
   go_simp
   with_reducible rfl
  rotate_left
  ·simp only [Act.put, qSa, qSb, qSc, qbl, qbn]
   rfl
  refine qbv (i := 6) (N := some 11) (v := ?_) (a' := ?_) #[true, true, true, false, true, true, true, false, false, false, false, false, false, false, false, false, false, false, false, false, false] rfl rfl (qbp HT_.out (by kernel_rfl)) (fun _ _ _ h => h) (Or.inl ⟨by rfl, ?_⟩) ?_ ?_
  rotate_left
  ·intro w'
   go_simp
   with_reducible rfl
  rotate_left
  ·simp only [Act.put, qSa, qSb, qSc, qbl, qbn]
   rfl
  refine qbv (i := 8) (N := some 13) (v := ?_) (a' := ?_) #[true, true, true, false, true, true, true, false, true, false, false, false, false, false, false, false, false, false, false, false, false] rfl rfl (qbp HT_.out (by kernel_rfl)) (fun _ _ _ h => h) (Or.inl ⟨by rfl, ?_⟩) ?_ ?_
  rotate_left
  ·intro w'
   go_simp
   with_reducible rfl
  rotate_left
  ·simp only [Act.put, qSa, qSb, qSc, qbl, qbn]
   rfl
  refine qbv (i := 9) (N := some 14) (v := ?_) (a' := ?_) #[true, true, true, false, true, true, true, false, true, true, false, false, false, false, false, false, false, false, false, false, false] rfl rfl (qbp HT_.out (by kernel_rfl)) (fun _ _ _ h => h) (Or.inl ⟨by rfl, ?_⟩) ?_ ?_
  rotate_left
  ·intro w'
   go_simp
   with_reducible rfl
  rotate_left
  ·simp only [Act.put, qSa, qSb, qSc, qbl, qbn]
   rfl
  refine qbv (i := 10) (N := some 15) (v := ?_) (a' := ?_) #[true, true, true, false, true, true, true, false, true, true, true, false, false, false, false, false, false, false, false, false, false] rfl rfl (qbp HT_.out (by kernel_rfl)) (fun _ _ _ h => h) (Or.inl ⟨by rfl, ?_⟩) ?_ ?_
  rotate_left
  ·intro w'
   go_simp
   with_reducible rfl
  rotate_left
  ·simp only [Act.put, qSa, qSb, qSc, qbl, qbn]
   rfl
  refine qbv (i := 13) (N := some 18) (v := ?_) (a' := ?_) #[true, true, true, false, true, true, true, false, true, true, true, false, false, true, false, false, false, false, false, false, false] rfl rfl (qbp HT_.out (by kernel_rfl)) (fun _ _ _ h => h) (Or.inl ⟨by rfl, ?_⟩) ?_ ?_
  rotate_left
  ·intro w'
   go_simp
   with_reducible rfl
  rotate_left
  ·simp only [Act.put, qSa, qSb, qSc, qbl, qbn]
   rfl
  refine qbv (i := 14) (N := some 19) (v := ?_) (a' := ?_) #[true, true, true, false, true, true, true, false, true, true, true, false, false, true, true, false, false, false, false, false, false] rfl rfl (qbp HT_.out (by kernel_rfl)) (fun _ _ _ h => h) (Or.inl ⟨by rfl, ?_⟩) ?_ ?_
  rotate_left
  ·intro w'
   go_simp
   with_reducible rfl
  rotate_left
  ·simp only [Act.put, qSa, qSb, qSc, qbl, qbn]
   rfl
  refine qbv (i := 15) (N := some 20) (v := ?_) (a' := ?_) #[true, true, true, false, true, true, true, false, true, true, true, false, false, true, true, true, false, false, false, false, false] rfl rfl (qbp HT_.out (by kernel_rfl)) (fun _ _ _ h => h) (Or.inl ⟨by rfl, ?_⟩) ?_ ?_
  rotate_left
  ·intro w'
   go_simp
   with_reducible rfl
  rotate_left
  ·simp only [Act.put, qSa, qSb, qSc, qbl, qbn]
   rfl
  refine take_ (i := 3) (N := some 8) (v := ?_) (a' := ?_) #[true, true, true, true, true, true, true, false, true, true, true, false, false, true, true, true, false, false, false, false, false] rfl rfl (qb1 HT_.out HW_.out (by kernel_rfl)) (fun _ _ _ h => h) (Or.inl ⟨by rfl, ?_⟩) hHeld ?_ ?_
  rotate_left
  ·rintro w' ⟨s0, s1, s2, s3⟩
   go_simp
   with_reducible rfl
  rotate_left
  ·simp only [Act.put, qSa, qSb, qSc, qbl, qbn]
   rfl
  refine take_ (i := 7) (N := some 12) (v := ?_) (a' := ?_) #[true, true, true, true, true, true, true, true, true, true, true, false, false, true, true, true, false, false, false, false, false] rfl rfl (qb1 HT_.out HW_.out (by kernel_rfl)) (fun _ _ _ h => h) (Or.inl ⟨by rfl, ?_⟩) hHeld ?_ ?_
  rotate_left
  ·rintro w' ⟨s0, s1, s2, s3⟩
   go_simp
   with_reducible rfl
  rotate_left
  ·simp only [Act.put, qSa, qSb, qSc, qbl, qbn]
   rfl
  refine take_ (i := 11) (N := some 16) (v := ?_) (a' := ?_) #[true, true, true, true, true, true, true, true, true, true, true, true, false, true, true, true, false, false, false, false, false] rfl rfl (qb1 HT_.out HW_.out (by kernel_rfl)) (fun _ _ _ h => h) (Or.inl ⟨by rfl, ?_⟩) hHeld ?_ ?_
  rotate_left
  ·rintro w' ⟨s0, s1, s2, s3⟩
   go_simp
   with_reducible rfl
  rotate_left
  ·simp only [Act.put, qSa, qSb, qSc, qbl, qbn]
   rfl
  refine take_ (i := 16) (N := some 21) (v := ?_) (a' := ?_) #[true, true, true, true, true, true, true, true, true, true, true, true, false, true, true, true, true, false, false, false, false] rfl rfl (qb1 HT_.out HW_.out (by kernel_rfl)) (fun _ _ _ h => h) (Or.inl ⟨by rfl, ?_⟩) hHeld ?_ ?_
  rotate_left
  ·rintro w' ⟨s0, s1, s2, s3⟩
   go_simp
   with_reducible rfl
  rotate_left
  ·simp only [Act.put, qSa, qSb, qSc, qbl, qbn]
   rfl
  refine one_ (i := 12) (N := some 17) #[true, true, true, true, true, true, true, true, true, true, true, true, true, true, true, true, true, false, false, false, false] rfl rfl (qb2 HT_.out (by kernel_rfl)) (by decide) (fun K hK => ?_)
  refine goes_ Try.func89 (by kernel_rfl) rfl #[.slice A0_1 l0_1.length c0_1] (by rfl) rfl rfl (by (try simp only [List.map_toArray, List.map_cons, List.map_nil]); first | done | rfl | (simp only [List.length_drop, List.length_take]; rfl)) ?_
  with_reducible refine (qbf.calls _ _ l0_1 t617 _ ?side1 ?side2 A3.out).mono ?_
  (case side1 => repeat (first | exact (Kd.qbt HR0_1.out HB.out) | (with_reducible refine Kd.CqA ?_ _) | (with_reducible refine Kd.CqN ?_ _) | (with_reducible refine Kd.CqD ?_)))
  (case side2 => exact HC0_1.out)
  rintro e w8 ⟨v618, rfl, ho0, hb⟩
  refine ⟨_, rfl, ?_⟩
  have HO619 := Aq.mk (Kd.qbx ho0 (bQZ (by repeat (with_reducible first | exact HB.out | apply bQA | apply bQN | apply bQ1 | refine bQS ?_ GE616.out))))
  replace BK616 := Aq.mk (kQB (by (with_reducible repeat (first | refine kQN ?_ _ | refine kQD ?_ | refine kQA ?_ _)); exact BK616.out) hb)
  replace HB := Aq.mk (bQT (by repeat (with_reducible first | exact HB.out | apply bQA | apply bQN | apply bQ1 | refine bQS ?_ GE616.out)) hb)
  (try clear hb)
  (try clear hb2)
  (try clear hk)
  (try clear hi)
  (try clear ho0)
  refine hK.out _ _ ⟨((HB.out.cell (World.block_lt_of_cell? w _ (AtC.cell0 BK40.out _ rfl : w.cell? g0_0 = some (.int .i64 a0_0)))).trans (AtC.cell0 BK40.out _ rfl : w.cell? g0_0 = some (.int .i64 a0_0))), ((HB.out.cell (World.block_lt_of_cell? w _ (AtC.cell BK40.out 1 _ (by decide) rfl : w.cell? ⟨g0_0.block, g0_0.off + 1, none⟩ = some (.slice A0_1 l0_1.length c0_1)))).trans (AtC.cell BK40.out 1 _ (by decide) rfl : w.cell? ⟨g0_0.block, g0_0.off + 1, none⟩ = some (.slice A0_1 l0_1.length c0_1))), ((HB.out.cell (World.block_lt_of_cell? w _ (AtC.cell0 BK48.out _ rfl : w.cell? g1_0 = some (.int .i64 a1_0)))).trans (AtC.cell0 BK48.out _ rfl : w.cell? g1_0 = some (.int .i64 a1_0))), ((HB.out.cell (World.block_lt_of_cell? w _ (AtC.cell BK48.out 1 _ (by decide) rfl : w.cell? ⟨g1_0.block, g1_0.off + 1, none⟩ = some (.slice A1_1 l1_1.length c1_1)))).trans (AtC.cell BK48.out 1 _ (by decide) rfl : w.cell? ⟨g1_0.block, g1_0.off + 1, none⟩ = some (.slice A1_1 l1_1.length c1_1)))⟩ (fun hHeld => ?_)
  clear hK K
  refine qb0 (a' := ?_) ?_ ?_
  rotate_left
  ·show Act.put _ (some 17) _ = _
   simp only [Act.put, qSa, qSb, qSc, qbl, qbn]
   rfl
  refine one_ (i := 17) (N := some 22) #[true, true, true, true, true, true, true, true, true, true, true, true, true, true, true, true, true, true, false, false, false] rfl rfl (qb2 HT_.out (by kernel_rfl)) (by decide) (fun K hK => ?_)
  refine Kd.R_append_rows_step (Kd.int .i64) (w0 := w) w.heap.size (by rfl) (.tmp 17) (.tmp 21) 22 2 (.int .i64 0) 8 rfl Try.underlying22 info2 rfl (by decide) (by omega) v618 t617 l1_1 _ _ _ (fun _ => True) (fun _ => False) rfl rfl ?aO ?aR (fun _ _ h => h) (fun _ h => h.elim) ?aF ?aB ?aS ?aL ?_
  (case aR => repeat (first | exact (Kd.qbt HR1_1.out HB.out) | (with_reducible refine Kd.CqA ?_ _) | (with_reducible refine Kd.CqN ?_ _) | (with_reducible refine Kd.CqD ?_)))
  (case aB => exact (by repeat (with_reducible first | exact HB.out | apply bQA | apply bQN | apply bQ1 | refine bQS ?_ GE616.out)))
  (case aF => exact (fun _ _ => trivial))
  (case aO => exact (by (with_reducible repeat (first | apply rA | apply rN | apply rD)); exact HO619.out))
  (case aS => exact (bQZ (by repeat (with_reducible first | exact HB.out | apply bQA | apply bQN | apply bQ1 | refine bQS ?_ GE616.out))))
  (case aL => have := LMc4.out; omega)
  intro v621 w9 ho hb hg hat
  rw [← Ny620.out] at ho
  replace BK616 := Aq.mk (blk_grown (g := gb616) (o := .cells #[.int .i64 0, .slice none 0 0] 26 (0, 0)) (by (with_reducible repeat (first | refine kQN ?_ _ | refine kQD ?_ | refine kQA ?_ _)); exact BK616.out) hg (Kd.R_ne HO619.out BK616.out (by decide)))
  replace HB := Aq.mk (hb)
  have HO622 := Aq.mk (ho)
  clear HO619
  clear ho hb hg hat
  obtain ⟨Ao10, co10, eo10⟩ := Kd.qbw HO622.out
  (first | subst eo10 | (injection eo10 with f1_ f2_ f3_; have f4_ := f1_.symm; have f5_ := f3_.symm; clear f1_ f2_ f3_; subst f4_; subst f5_))
  refine hK.out _ _ ⟨((HB.out.cell (World.block_lt_of_cell? w _ (AtC.cell0 BK40.out _ rfl : w.cell? g0_0 = some (.int .i64 a0_0)))).trans (AtC.cell0 BK40.out _ rfl : w.cell? g0_0 = some (.int .i64 a0_0))), ((HB.out.cell (World.block_lt_of_cell? w _ (AtC.cell BK40.out 1 _ (by decide) rfl : w.cell? ⟨g0_0.block, g0_0.off + 1, none⟩ = some (.slice A0_1 l0_1.length c0_1)))).trans (AtC.cell BK40.out 1 _ (by decide) rfl : w.cell? ⟨g0_0.block, g0_0.off + 1, none⟩ = some (.slice A0_1 l0_1.length c0_1))), ((HB.out.cell (World.block_lt_of_cell? w _ (AtC.cell0 BK48.out _ rfl : w.cell? g1_0 = some (.int .i64 a1_0)))).trans (AtC.cell0 BK48.out _ rfl : w.cell? g1_0 = some (.int .i64 a1_0))), ((HB.out.cell (World.block_lt_of_cell? w _ (AtC.cell BK48.out 1 _ (by decide) rfl : w.cell? ⟨g1_0.block, g1_0.off + 1, none⟩ = some (.slice A1_1 l1_1.length c1_1)))).trans (AtC.cell BK48.out 1 _ (by decide) rfl : w.cell? ⟨g1_0.block, g1_0.off + 1, none⟩ = some (.slice A1_1 l1_1.length c1_1)))⟩ (fun hHeld => ?_)
  clear hK K
  refine qb0 (a' := ?_) ?_ ?_
  rotate_left
  ·show Act.put _ (some 22) _ = _
   simp only [Act.put, qSa, qSb, qSc, qbl, qbn]
   rfl
  refine one_ (i := 18) (N := some 23) #[true, true, true, true, true, true, true, true, true, true, true, true, true, true, true, true, true, true, true, false, false] rfl rfl (qb2 HT_.out (by kernel_rfl)) (by decide) (fun K hK => ?_)
  refine goes_ Try.func69 (by kernel_rfl) rfl #[.int .i64 a0_0, .slice Ao10 y620.length co10] (by rfl) rfl rfl (by (try simp only [List.map_toArray, List.map_cons, List.map_nil]); first | done | rfl | (simp only [List.length_drop, List.length_take]; rfl)) ?_
  with_reducible refine (qaa.calls k a0_0 _ _ y620 t623 _ ?side1 ?side2 A5.out).mono ?_
  (case side1 => repeat (first | exact (Kd.qbi HO622.out).2.2 | (with_reducible refine Kd.CqA ?_ _) | (with_reducible refine Kd.CqN ?_ _) | (with_reducible refine Kd.CqD ?_)))
  (case side2 => exact (Kd.qbi HO622.out).2.1)
  rintro e w11 ⟨v624, rfl, ho0, hb⟩
  refine ⟨_, rfl, ?_⟩
  have HO625 := Aq.mk (Kd.qbx (Kd.qbu ho0 (Kd.R_lt (by (with_reducible repeat (first | apply rA | apply rN | apply rD)); exact HO622.out))) (bQZ (by repeat (with_reducible first | exact HB.out | apply bQA | apply bQN | apply bQ1 | refine bQS ?_ GE616.out))))
  replace HO622 := Aq.mk (Kd.qbm (by (with_reducible repeat (first | apply rA | apply rN | apply rD)); exact HO622.out) (Kd.qbr ho0) hb)
  replace BK616 := Aq.mk (kQB (by (with_reducible repeat (first | refine kQN ?_ _ | refine kQD ?_ | refine kQA ?_ _)); exact BK616.out) hb)
  replace HB := Aq.mk (bQT (by repeat (with_reducible first | exact HB.out | apply bQA | apply bQN | apply bQ1 | refine bQS ?_ GE616.out)) hb)
  (try clear hb)
  (try clear hb2)
  (try clear hk)
  (try clear hi)
  (try clear ho0)
  obtain ⟨Ao12, co12, eo12⟩ := Kd.qbw HO625.out
  (first | subst eo12 | (injection eo12 with f1_ f2_ f3_; have f4_ := f1_.symm; have f5_ := f3_.symm; clear f1_ f2_ f3_; subst f4_; subst f5_))
  refine hK.out _ _ ⟨((HB.out.cell (World.block_lt_of_cell? w _ (AtC.cell0 BK40.out _ rfl : w.cell? g0_0 = some (.int .i64 a0_0)))).trans (AtC.cell0 BK40.out _ rfl : w.cell? g0_0 = some (.int .i64 a0_0))), ((HB.out.cell (World.block_lt_of_cell? w _ (AtC.cell BK40.out 1 _ (by decide) rfl : w.cell? ⟨g0_0.block, g0_0.off + 1, none⟩ = some (.slice A0_1 l0_1.length c0_1)))).trans (AtC.cell BK40.out 1 _ (by decide) rfl : w.cell? ⟨g0_0.block, g0_0.off + 1, none⟩ = some (.slice A0_1 l0_1.length c0_1))), ((HB.out.cell (World.block_lt_of_cell? w _ (AtC.cell0 BK48.out _ rfl : w.cell? g1_0 = some (.int .i64 a1_0)))).trans (AtC.cell0 BK48.out _ rfl : w.cell? g1_0 = some (.int .i64 a1_0))), ((HB.out.cell (World.block_lt_of_cell? w _ (AtC.cell BK48.out 1 _ (by decide) rfl : w.cell? ⟨g1_0.block, g1_0.off + 1, none⟩ = some (.slice A1_1 l1_1.length c1_1)))).trans (AtC.cell BK48.out 1 _ (by decide) rfl : w.cell? ⟨g1_0.block, g1_0.off + 1, none⟩ = some (.slice A1_1 l1_1.length c1_1)))⟩ (fun hHeld => ?_)
  clear hK K
  refine qb0 (a' := ?_) ?_ ?_
  rotate_left
  ·show Act.put _ (some 23) _ = _
   simp only [Act.put, qSa, qSb, qSc, qbl, qbn]
   rfl
  refine qbv (i := 19) (N := some 24) (v := ?_) (a' := ?_) #[true, true, true, true, true, true, true, true, true, true, true, true, true, true, true, true, true, true, true, true, false] rfl rfl (qbp HT_.out (by kernel_rfl)) (fun _ _ _ h => h) (Or.inl ⟨by rfl, ?_⟩) ?_ ?_
  rotate_left
  ·intro w'
   go_simp
   with_reducible rfl
  rotate_left
  ·simp only [Act.put, qSa, qSb, qSc, qbl, qbn]
   rfl
  refine one_ (i := 20) (N := none) #[true, true, true, true, true, true, true, true, true, true, true, true, true, true, true, true, true, true, true, true, true] rfl rfl (qb2 HT_.out (by kernel_rfl)) (by decide) (fun K hK => ?_)
  have hs13 : w11.cell? ⟨gb616, 0, none⟩ = some (.int .i64 0) := (kQC BK616.out 0).trans rfl
  have hfs13 := kQF BK616.out 0
  have hs14 : w11.cell? ⟨gb616, 1, none⟩ = some (.slice none 0 0) := (kQC BK616.out 1).trans rfl
  have hfs14 := kQF BK616.out 1
  refine skip_ (w1 := ?_) (by rfl) rfl ?_ ?_
  rotate_left
  ·go_simp
   rfl
  refine hK.out _ _ ⟨((cell_far (p := ⟨gb616, _, none⟩) (by first | exact AtC.ne BK40.out GW616.out | (rw [add_block]; exact AtC.ne BK40.out GW616.out) | (show (Addr.add _ _).block ≠ _; rw [add_block]; exact AtC.ne BK40.out GW616.out) | (dsimp only; exact AtC.ne BK40.out GW616.out)) _).trans (((cell_far (p := ⟨gb616, _, none⟩) (by first | exact AtC.ne BK40.out GW616.out | (rw [add_block]; exact AtC.ne BK40.out GW616.out) | (show (Addr.add _ _).block ≠ _; rw [add_block]; exact AtC.ne BK40.out GW616.out) | (dsimp only; exact AtC.ne BK40.out GW616.out)) _).trans (hHeld.1)))), ((cell_far (p := ⟨gb616, _, none⟩) (by first | exact AtC.ne BK40.out GW616.out | (rw [add_block]; exact AtC.ne BK40.out GW616.out) | (show (Addr.add _ _).block ≠ _; rw [add_block]; exact AtC.ne BK40.out GW616.out) | (dsimp only; exact AtC.ne BK40.out GW616.out)) _).trans (((cell_far (p := ⟨gb616, _, none⟩) (by first | exact AtC.ne BK40.out GW616.out | (rw [add_block]; exact AtC.ne BK40.out GW616.out) | (show (Addr.add _ _).block ≠ _; rw [add_block]; exact AtC.ne BK40.out GW616.out) | (dsimp only; exact AtC.ne BK40.out GW616.out)) _).trans (hHeld.2.1)))), ((cell_far (p := ⟨gb616, _, none⟩) (by first | exact AtC.ne BK48.out GW616.out | (rw [add_block]; exact AtC.ne BK48.out GW616.out) | (show (Addr.add _ _).block ≠ _; rw [add_block]; exact AtC.ne BK48.out GW616.out) | (dsimp only; exact AtC.ne BK48.out GW616.out)) _).trans (((cell_far (p := ⟨gb616, _, none⟩) (by first | exact AtC.ne BK48.out GW616.out | (rw [add_block]; exact AtC.ne BK48.out GW616.out) | (show (Addr.add _ _).block ≠ _; rw [add_block]; exact AtC.ne BK48.out GW616.out) | (dsimp only; exact AtC.ne BK48.out GW616.out)) _).trans (hHeld.2.2.1)))), ((cell_far (p := ⟨gb616, _, none⟩) (by first | exact AtC.ne BK48.out GW616.out | (rw [add_block]; exact AtC.ne BK48.out GW616.out) | (show (Addr.add _ _).block ≠ _; rw [add_block]; exact AtC.ne BK48.out GW616.out) | (dsimp only; exact AtC.ne BK48.out GW616.out)) _).trans (((cell_far (p := ⟨gb616, _, none⟩) (by first | exact AtC.ne BK48.out GW616.out | (rw [add_block]; exact AtC.ne BK48.out GW616.out) | (show (Addr.add _ _).block ≠ _; rw [add_block]; exact AtC.ne BK48.out GW616.out) | (dsimp only; exact AtC.ne BK48.out GW616.out)) _).trans (hHeld.2.2.2))))⟩ (fun hHeld => ?_)
  clear hK K
  refine done_ (done_of HT_.out (by kernel_rfl)) ?_
  try go_wp2
  refine bodyPost_ret (results_cell_row rfl _ _ gb616 26 #[.int .i64 a0_0, .slice Ao12 t623.length co12] (0, 0) _ rfl (by (with_reducible repeat (first | refine kQN ?_ _ | refine kQD ?_ | refine kQA ?_ _)); refine kQP (cs := #[.int .i64 a0_0, .slice none 0 0]) ?_ 1 _ rfl; (with_reducible repeat (first | refine kQN ?_ _ | refine kQD ?_ | refine kQA ?_ _)); refine kQP (cs := #[.int .i64 0, .slice none 0 0]) ?_ 0 _ rfl; (with_reducible repeat (first | refine kQN ?_ _ | refine kQD ?_ | refine kQA ?_ _)); exact BK616.out) Try.underlying26 rfl (by kernel_rfl)) rfl ?_
  exact ⟨_, by first | rfl | (simp [errW_none, errW_some] <;> rfl) | (simp [*, errW_none, errW_some] <;> rfl), by (with_reducible repeat (first | apply rA | apply rN | apply rD)); exact Kd.qbj (Kd.qbs (p := ⟨gb616, 1, none⟩) (Kd.qbs (p := ⟨gb616, 0, none⟩) (Kd.qbq HO625.out BK616.out (by decide)) (fun _ hk => hk.2) (.int .i64 a0_0)) (fun _ hk => hk.2) (.slice Ao12 t623.length co12)) (fun _ hk => trivial), by repeat (first | (with_reducible first | exact HB.out | apply bQA | apply bQN | apply bQ1 | refine bQS ?_ GE616.out) | exact HB.out)⟩
 ·rw [if_neg c4] at H
  exact absurd H (by simp)
end Go.Proofs.Ytbaicdgkpnbipaa.P
