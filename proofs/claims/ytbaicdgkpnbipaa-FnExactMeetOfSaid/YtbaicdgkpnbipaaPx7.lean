/- Printed functions. -/
import Derived.Test.YtbaicdgkpnbipaaPx0
import Derived.Test.YtbaicdgkpnbipaaPx1
import Derived.Test.YtbaicdgkpnbipaaPx2
import Derived.Test.YtbaicdgkpnbipaaPx6
namespace Go.Proofs.Ytbaicdgkpnbipaa.P
open Go.Shelf Go.RowKit Go.Proofs.YtbaicdgkpnbipaaW.PrintWords Go.Proofs.YtbaicdgkpnbipaaW.PrintLast Go.Proofs.YtbaicdgkpnbipaaW.PrintMore
attribute [local go_sem] max2_int min2_int max_two min_two max_three min_three max_four min_four
set_option linter.unusedVariables false
set_option linter.unusedSimpArgs false
def qav.f (k : Nat) (a0_0 : Int) (l0_1 : List Int) : Option (Bool) := (qal.f k a0_0 l0_1).bind fun t495 => (if t495 = true then ((qaa.f k a0_0 l0_1).bind fun t496 => ((qau.f k t496 l0_1).bind fun t499 => (some t499))) else (some false))
theorem qav.mono : ∀ a0 a1 k, LeO (qav.f k a0 a1) (qav.f (k + 1) a0 a1) := by
 intro a0 a1 k
 unfold qav.f
 repeat' first
  | (with_reducible first | exact qau.mono _ _ _ | exact qaa.mono _ _ _ | exact qal.mono _ _ _ | exact LeO.refl _ | exact LeO.none _ | refine LeO.ite ?_ ?_ | refine LeO.bind ?_ (fun _ => ?_))
  | exact LeO.none _
  | refine LeO.ite ?_ ?_
  | refine LeO.bind ?_ (fun _ => ?_)
def qav.T1 : Bool × List (List Nat × List Nat) := (true, [([], []), ([0], [0]), ([1, 1], [1]), ([2], [2]), ([3, 2], [2, 3]), ([4, 2], [2, 4]), ([5, 2], [2, 5]), ([2], [2]), ([7, 2], [2, 7]), ([8, 2], [2, 8]), ([9, 2], [2, 9]), ([6, 10, 2, 2], [2, 6, 10]), ([2], [2]), ([12, 2], [2, 12]), ([13, 2], [2, 13]), ([14, 2], [2, 14]), ([11, 15, 11, 2], [2, 11, 15]), ([2, 16], [2, 16]), ([17, 16, 0, 1, 2, 3, 4, 5, 6, 7, 8, 9, 10, 11, 12, 13, 14, 15, 16, 17], [17])])
def qav.B1 : List Nat := [0, 1, 3, 7, 15, 31, 63, 7, 135, 391, 903, 2047, 7, 4103, 12295, 28679, 65535, 131071, 262143]
theorem qav.tab1 : rtab .any (opsOf Try.f73 1) = qav.T1 := by kernel_rfl
theorem qav.bits1 : waitsOk qav.T1.2 qav.B1 = true := by kernel_rfl
set_option maxHeartbeats 8000000 in
set_option maxRecDepth 100000 in
theorem qav.calls (k : Nat) (g0_0 : Addr) (a0_0 : Int) (A0_1 : Option Addr) (c0_1 : Nat) (l0_1 : List Int) (r : Bool) (w : World) (hr0_1 : Kd.C (Kd.int .i64) w A0_1 l0_1.length l0_1) (hc0_1 : l0_1.length ≤ c0_1) (hb0_0 : AtC w g0_0 [.int .i64 a0_0, .slice A0_1 l0_1.length c0_1]) (h : qav.f k a0_0 l0_1 = some r) :
 Calls Try.prog 73 #[.pointer (some g0_0)] w fun e w' => e = .returned (.bool r) ∧ Below w.heap.size w w' := by
 have HR0_1 := Aq.mk hr0_1
 have HC0_1 := Aq.mk hc0_1
 clear hr0_1 hc0_1
 have BK40 := Aq.mk hb0_0
 clear hb0_0
 have HB := Aq.mk (Below.refl w.heap.size w)
 have H : ((qal.f k a0_0 l0_1).bind fun t495 => (if t495 = true then ((qaa.f k a0_0 l0_1).bind fun t496 => ((qau.f k t496 l0_1).bind fun t499 => (some t499))) else (some false))) = some r := h
 clear h
 replace H := Option.bind_eq_some_iff.mp H
 obtain ⟨t495, A20, H⟩ := H
 replace H : (if t495 = true then ((qaa.f k a0_0 l0_1).bind fun t496 => ((qau.f k t496 l0_1).bind fun t499 => (some t499))) else (some false)) = some r := H
 have A2 := Aq.mk A20
 clear A20
 by_cases c3 : t495 = true
 ·subst c3
  have H1 : ((qaa.f k a0_0 l0_1).bind fun t496 => ((qau.f k t496 l0_1).bind fun t499 => (some t499))) = some r := by rw [if_pos rfl] at H; exact H
  clear H
  have H := H1
  clear H1
  replace H := Option.bind_eq_some_iff.mp H
  obtain ⟨t496, A40, H⟩ := H
  replace H : ((qau.f k t496 l0_1).bind fun t499 => (some t499)) = some r := H
  have A4 := Aq.mk A40
  clear A40
  replace H := Option.bind_eq_some_iff.mp H
  obtain ⟨t499, A50, H⟩ := H
  replace H : (some t499) = some r := H
  have A5 := Aq.mk A50
  clear A50
  obtain rfl := Option.some.inj H
  go_enter Try.func73, Try.ntmps73
  try go_wp2
  replace HB := Aq.mk (bQ1 HB.out)
  refine start_ (n := 19) (S := fun w' => w'.cell? g0_0 = some (.int .i64 a0_0) ∧ w'.cell? ⟨g0_0.block, g0_0.off + 1, none⟩ = some (.slice A0_1 l0_1.length c0_1)) (ds := []) #[false, false, false, false, false, false, false, false, false, false, false, false, false, false, false, false, false, false, false] (by kernel_rfl) rfl rfl ⟨((HB.out.cell (World.block_lt_of_cell? w _ (AtC.cell0 BK40.out _ rfl : w.cell? g0_0 = some (.int .i64 a0_0)))).trans (AtC.cell0 BK40.out _ rfl : w.cell? g0_0 = some (.int .i64 a0_0))), ((HB.out.cell (World.block_lt_of_cell? w _ (AtC.cell BK40.out 1 _ (by decide) rfl : w.cell? ⟨g0_0.block, g0_0.off + 1, none⟩ = some (.slice A0_1 l0_1.length c0_1)))).trans (AtC.cell BK40.out 1 _ (by decide) rfl : w.cell? ⟨g0_0.block, g0_0.off + 1, none⟩ = some (.slice A0_1 l0_1.length c0_1)))⟩ (fun hHeld => ?_); refine with_tabW qav.tab1 qav.bits1 (fun HT_ HW_ => ?_)
  generalize w.drew = w6 at HB hHeld ⊢
  refine qbv (i := 0) (N := some 3) (v := ?_) (a' := ?_) #[true, false, false, false, false, false, false, false, false, false, false, false, false, false, false, false, false, false, false] rfl rfl (qbp HT_.out (by kernel_rfl)) (fun _ _ _ h => h) (Or.inl ⟨by rfl, ?_⟩) ?_ ?_
  rotate_left
  ·intro w'
   go_simp
   with_reducible rfl
  rotate_left
  ·simp only [Act.put, qSa, qSb, qSc, qbl, qbn]
   rfl
  refine one_ (i := 1) (N := some 4) #[true, true, false, false, false, false, false, false, false, false, false, false, false, false, false, false, false, false, false] rfl rfl (qb2 HT_.out (by kernel_rfl)) (by decide) (fun K hK => ?_)
  refine goes_ Try.func53 (by kernel_rfl) rfl #[.pointer (some g0_0)] (by rfl) rfl rfl (by (try simp only [List.map_toArray, List.map_cons, List.map_nil]); first | done | rfl | (simp only [List.length_drop, List.length_take]; rfl)) ?_
  with_reducible refine (qal.calls k (g0_0 : Addr) a0_0 A0_1 c0_1 l0_1 true _ ?side1 ?side2 ?side3 A2.out).mono ?_
  (case side1 => repeat (first | exact (Kd.qbt HR0_1.out HB.out) | (with_reducible refine Kd.CqA ?_ _) | (with_reducible refine Kd.CqN ?_ _) | (with_reducible refine Kd.CqD ?_)))
  (case side2 => exact HC0_1.out)
  (case side3 => repeat (first | exact (AtC.below BK40.out HB.out) | (with_reducible refine AtC.alloc ?_ _) | (with_reducible refine AtC.drewN ?_ _) | (with_reducible refine AtC.drew ?_)))
  rintro e w' ⟨rfl, ⟨nd, rfl⟩⟩
  refine ⟨_, rfl, ?_⟩
  refine hK.out _ _ ⟨((HB.out.cell (World.block_lt_of_cell? w _ (AtC.cell0 BK40.out _ rfl : w.cell? g0_0 = some (.int .i64 a0_0)))).trans (AtC.cell0 BK40.out _ rfl : w.cell? g0_0 = some (.int .i64 a0_0))), ((HB.out.cell (World.block_lt_of_cell? w _ (AtC.cell BK40.out 1 _ (by decide) rfl : w.cell? ⟨g0_0.block, g0_0.off + 1, none⟩ = some (.slice A0_1 l0_1.length c0_1)))).trans (AtC.cell BK40.out 1 _ (by decide) rfl : w.cell? ⟨g0_0.block, g0_0.off + 1, none⟩ = some (.slice A0_1 l0_1.length c0_1)))⟩ (fun hHeld => ?_)
  clear hK K
  refine qb0 (a' := ?_) ?_ ?_
  rotate_left
  ·show Act.put _ (some 4) _ = _
   simp only [Act.put, qSa, qSb, qSc, qbl, qbn]
   rfl
  refine qbv (i := 2) (N := some 5) (v := ?_) (a' := ?_) #[true, true, true, false, false, false, false, false, false, false, false, false, false, false, false, false, false, false, false] rfl rfl (qbp HT_.out (by kernel_rfl)) (fun _ _ _ h => h) (Or.inl ⟨by rfl, ?_⟩) ?_ ?_
  rotate_left
  ·intro w'
   go_simp
   with_reducible rfl
  rotate_left
  ·simp only [Act.put, qSa, qSb, qSc, qbl, qbn]
   rfl
  refine qbv (i := 3) (N := some 6) (v := ?_) (a' := ?_) #[true, true, true, true, false, false, false, false, false, false, false, false, false, false, false, false, false, false, false] rfl rfl (qbp HT_.out (by kernel_rfl)) (fun _ _ _ h => h) (Or.inl ⟨by rfl, ?_⟩) ?_ ?_
  rotate_left
  ·intro w'
   go_simp
   with_reducible rfl
  rotate_left
  ·simp only [Act.put, qSa, qSb, qSc, qbl, qbn]
   rfl
  refine qbv (i := 4) (N := some 7) (v := ?_) (a' := ?_) #[true, true, true, true, true, false, false, false, false, false, false, false, false, false, false, false, false, false, false] rfl rfl (qbp HT_.out (by kernel_rfl)) (fun _ _ _ h => h) (Or.inl ⟨by rfl, ?_⟩) ?_ ?_
  rotate_left
  ·intro w'
   go_simp
   with_reducible rfl
  rotate_left
  ·simp only [Act.put, qSa, qSb, qSc, qbl, qbn]
   rfl
  refine qbv (i := 5) (N := some 8) (v := ?_) (a' := ?_) #[true, true, true, true, true, true, false, false, false, false, false, false, false, false, false, false, false, false, false] rfl rfl (qbp HT_.out (by kernel_rfl)) (fun _ _ _ h => h) (Or.inl ⟨by rfl, ?_⟩) ?_ ?_
  rotate_left
  ·intro w'
   go_simp
   with_reducible rfl
  rotate_left
  ·simp only [Act.put, qSa, qSb, qSc, qbl, qbn]
   rfl
  refine qbv (i := 7) (N := some 10) (v := ?_) (a' := ?_) #[true, true, true, true, true, true, false, true, false, false, false, false, false, false, false, false, false, false, false] rfl rfl (qbp HT_.out (by kernel_rfl)) (fun _ _ _ h => h) (Or.inl ⟨by rfl, ?_⟩) ?_ ?_
  rotate_left
  ·intro w'
   go_simp
   with_reducible rfl
  rotate_left
  ·simp only [Act.put, qSa, qSb, qSc, qbl, qbn]
   rfl
  refine qbv (i := 8) (N := some 11) (v := ?_) (a' := ?_) #[true, true, true, true, true, true, false, true, true, false, false, false, false, false, false, false, false, false, false] rfl rfl (qbp HT_.out (by kernel_rfl)) (fun _ _ _ h => h) (Or.inl ⟨by rfl, ?_⟩) ?_ ?_
  rotate_left
  ·intro w'
   go_simp
   with_reducible rfl
  rotate_left
  ·simp only [Act.put, qSa, qSb, qSc, qbl, qbn]
   rfl
  refine qbv (i := 9) (N := some 12) (v := ?_) (a' := ?_) #[true, true, true, true, true, true, false, true, true, true, false, false, false, false, false, false, false, false, false] rfl rfl (qbp HT_.out (by kernel_rfl)) (fun _ _ _ h => h) (Or.inl ⟨by rfl, ?_⟩) ?_ ?_
  rotate_left
  ·intro w'
   go_simp
   with_reducible rfl
  rotate_left
  ·simp only [Act.put, qSa, qSb, qSc, qbl, qbn]
   rfl
  refine qbv (i := 12) (N := some 15) (v := ?_) (a' := ?_) #[true, true, true, true, true, true, false, true, true, true, false, false, true, false, false, false, false, false, false] rfl rfl (qbp HT_.out (by kernel_rfl)) (fun _ _ _ h => h) (Or.inl ⟨by rfl, ?_⟩) ?_ ?_
  rotate_left
  ·intro w'
   go_simp
   with_reducible rfl
  rotate_left
  ·simp only [Act.put, qSa, qSb, qSc, qbl, qbn]
   rfl
  refine qbv (i := 13) (N := some 16) (v := ?_) (a' := ?_) #[true, true, true, true, true, true, false, true, true, true, false, false, true, true, false, false, false, false, false] rfl rfl (qbp HT_.out (by kernel_rfl)) (fun _ _ _ h => h) (Or.inl ⟨by rfl, ?_⟩) ?_ ?_
  rotate_left
  ·intro w'
   go_simp
   with_reducible rfl
  rotate_left
  ·simp only [Act.put, qSa, qSb, qSc, qbl, qbn]
   rfl
  refine qbv (i := 14) (N := some 17) (v := ?_) (a' := ?_) #[true, true, true, true, true, true, false, true, true, true, false, false, true, true, true, false, false, false, false] rfl rfl (qbp HT_.out (by kernel_rfl)) (fun _ _ _ h => h) (Or.inl ⟨by rfl, ?_⟩) ?_ ?_
  rotate_left
  ·intro w'
   go_simp
   with_reducible rfl
  rotate_left
  ·simp only [Act.put, qSa, qSb, qSc, qbl, qbn]
   rfl
  refine take_ (i := 6) (N := some 9) (v := ?_) (a' := ?_) #[true, true, true, true, true, true, true, true, true, true, false, false, true, true, true, false, false, false, false] rfl rfl (qb1 HT_.out HW_.out (by kernel_rfl)) (fun _ _ _ h => h) (Or.inl ⟨by rfl, ?_⟩) hHeld ?_ ?_
  rotate_left
  ·rintro w' ⟨s0, s1⟩
   go_simp
   with_reducible rfl
  rotate_left
  ·simp only [Act.put, qSa, qSb, qSc, qbl, qbn]
   rfl
  refine take_ (i := 10) (N := some 13) (v := ?_) (a' := ?_) #[true, true, true, true, true, true, true, true, true, true, true, false, true, true, true, false, false, false, false] rfl rfl (qb1 HT_.out HW_.out (by kernel_rfl)) (fun _ _ _ h => h) (Or.inl ⟨by rfl, ?_⟩) hHeld ?_ ?_
  rotate_left
  ·rintro w' ⟨s0, s1⟩
   go_simp
   with_reducible rfl
  rotate_left
  ·simp only [Act.put, qSa, qSb, qSc, qbl, qbn]
   rfl
  refine take_ (i := 15) (N := some 18) (v := ?_) (a' := ?_) #[true, true, true, true, true, true, true, true, true, true, true, false, true, true, true, true, false, false, false] rfl rfl (qb1 HT_.out HW_.out (by kernel_rfl)) (fun _ _ _ h => h) (Or.inl ⟨by rfl, ?_⟩) hHeld ?_ ?_
  rotate_left
  ·rintro w' ⟨s0, s1⟩
   go_simp
   with_reducible rfl
  rotate_left
  ·simp only [Act.put, qSa, qSb, qSc, qbl, qbn]
   rfl
  refine one_ (i := 11) (N := some 14) #[true, true, true, true, true, true, true, true, true, true, true, true, true, true, true, true, false, false, false] rfl rfl (qb2 HT_.out (by kernel_rfl)) (by decide) (fun K hK => ?_)
  refine goes_ Try.func69 (by kernel_rfl) rfl #[.int .i64 a0_0, .slice A0_1 l0_1.length c0_1] (by rfl) rfl rfl (by (try simp only [List.map_toArray, List.map_cons, List.map_nil]); first | done | rfl | (simp only [List.length_drop, List.length_take]; rfl)) ?_
  with_reducible refine (qaa.calls k a0_0 _ _ l0_1 t496 _ ?side1 ?side2 A4.out).mono ?_
  (case side1 => repeat (first | exact (Kd.qbt HR0_1.out (by repeat (with_reducible first | exact HB.out | apply bQA | apply bQN | apply bQ1))) | (with_reducible refine Kd.CqA ?_ _) | (with_reducible refine Kd.CqN ?_ _) | (with_reducible refine Kd.CqD ?_)))
  (case side2 => exact HC0_1.out)
  rintro e w7 ⟨v497, rfl, ho0, hb⟩
  refine ⟨_, rfl, ?_⟩
  have HO498 := Aq.mk (Kd.qbx ho0 (bQZ (by repeat (with_reducible first | exact HB.out | apply bQA | apply bQN | apply bQ1))))
  replace HB := Aq.mk (bQT (by repeat (with_reducible first | exact HB.out | apply bQA | apply bQN | apply bQ1)) hb)
  (try clear hb)
  (try clear hb2)
  (try clear hk)
  (try clear hi)
  (try clear ho0)
  obtain ⟨Ao8, co8, eo8⟩ := Kd.qbw HO498.out
  (first | subst eo8 | (injection eo8 with f1_ f2_ f3_; have f4_ := f1_.symm; have f5_ := f3_.symm; clear f1_ f2_ f3_; subst f4_; subst f5_))
  refine hK.out _ _ ⟨((HB.out.cell (World.block_lt_of_cell? w _ (AtC.cell0 BK40.out _ rfl : w.cell? g0_0 = some (.int .i64 a0_0)))).trans (AtC.cell0 BK40.out _ rfl : w.cell? g0_0 = some (.int .i64 a0_0))), ((HB.out.cell (World.block_lt_of_cell? w _ (AtC.cell BK40.out 1 _ (by decide) rfl : w.cell? ⟨g0_0.block, g0_0.off + 1, none⟩ = some (.slice A0_1 l0_1.length c0_1)))).trans (AtC.cell BK40.out 1 _ (by decide) rfl : w.cell? ⟨g0_0.block, g0_0.off + 1, none⟩ = some (.slice A0_1 l0_1.length c0_1)))⟩ (fun hHeld => ?_)
  clear hK K
  refine qb0 (a' := ?_) ?_ ?_
  rotate_left
  ·show Act.put _ (some 14) _ = _
   simp only [Act.put, qSa, qSb, qSc, qbl, qbn]
   rfl
  refine one_ (i := 16) (N := some 19) #[true, true, true, true, true, true, true, true, true, true, true, true, true, true, true, true, true, false, false] rfl rfl (qb2 HT_.out (by kernel_rfl)) (by decide) (fun K hK => ?_)
  refine goes_ Try.func76 (by kernel_rfl) rfl #[.slice Ao8 t496.length co8, .slice A0_1 l0_1.length c0_1] (by rfl) rfl rfl (by (try simp only [List.map_toArray, List.map_cons, List.map_nil]); first | done | rfl | (simp only [List.length_drop, List.length_take]; rfl)) ?_
  with_reducible refine (qau.calls k _ _ t496 _ _ l0_1 t499 _ ?side1 ?side2 ?side3 ?side4 A5.out).mono ?_
  (case side1 => repeat (first | exact (Kd.qbi HO498.out).2.2 | (with_reducible refine Kd.CqA ?_ _) | (with_reducible refine Kd.CqN ?_ _) | (with_reducible refine Kd.CqD ?_)))
  (case side2 => exact (Kd.qbi HO498.out).2.1)
  (case side3 => repeat (first | exact (Kd.qbt HR0_1.out HB.out) | (with_reducible refine Kd.CqA ?_ _) | (with_reducible refine Kd.CqN ?_ _) | (with_reducible refine Kd.CqD ?_)))
  (case side4 => exact HC0_1.out)
  rintro e w' ⟨rfl, ⟨nd, rfl⟩⟩
  refine ⟨_, rfl, ?_⟩
  refine hK.out _ _ ⟨((HB.out.cell (World.block_lt_of_cell? w _ (AtC.cell0 BK40.out _ rfl : w.cell? g0_0 = some (.int .i64 a0_0)))).trans (AtC.cell0 BK40.out _ rfl : w.cell? g0_0 = some (.int .i64 a0_0))), ((HB.out.cell (World.block_lt_of_cell? w _ (AtC.cell BK40.out 1 _ (by decide) rfl : w.cell? ⟨g0_0.block, g0_0.off + 1, none⟩ = some (.slice A0_1 l0_1.length c0_1)))).trans (AtC.cell BK40.out 1 _ (by decide) rfl : w.cell? ⟨g0_0.block, g0_0.off + 1, none⟩ = some (.slice A0_1 l0_1.length c0_1)))⟩ (fun hHeld => ?_)
  clear hK K
  refine qb0 (a' := ?_) ?_ ?_
  rotate_left
  ·show Act.put _ (some 19) _ = _
   simp only [Act.put, qSa, qSb, qSc, qbl, qbn]
   rfl
  refine qbv (i := 17) (N := some 20) (v := ?_) (a' := ?_) #[true, true, true, true, true, true, true, true, true, true, true, true, true, true, true, true, true, true, false] rfl rfl (qbp HT_.out (by kernel_rfl)) (fun _ _ _ h => h) (Or.inl ⟨by rfl, ?_⟩) ?_ ?_
  rotate_left
  ·intro w'
   go_simp
   with_reducible rfl
  rotate_left
  ·simp only [Act.put, qSa, qSb, qSc, qbl, qbn]
   rfl
  refine qbv (i := 18) (N := some 2) (v := ?_) (a' := ?_) #[true, true, true, true, true, true, true, true, true, true, true, true, true, true, true, true, true, true, true] rfl rfl (qbp HT_.out (by kernel_rfl)) (fun _ _ _ h => h) (Or.inl ⟨by rfl, ?_⟩) ?_ ?_
  rotate_left
  ·intro w'
   go_simp
   with_reducible rfl
  rotate_left
  ·simp only [Act.put, qSa, qSb, qSc, qbl, qbn]
   rfl
  refine done_ (done_of HT_.out (by kernel_rfl)) ?_
  try go_wp2
  go_ret
  exact ⟨by first | rfl | (simp [errW_none, errW_some] <;> rfl) | (simp [*, errW_none, errW_some] <;> rfl), by repeat (first | (with_reducible first | exact HB.out | apply bQA | apply bQN | apply bQ1) | exact HB.out)⟩
 ·replace c3 := Bool.eq_false_iff.mpr c3
  subst c3
  have H1 : (some false) = some r := by rw [if_neg (show ¬ (false = true) by decide)] at H; exact H
  clear H
  have H := H1
  clear H1
  obtain rfl := Option.some.inj H
  go_enter Try.func73, Try.ntmps73
  try go_wp2
  replace HB := Aq.mk (bQ1 HB.out)
  refine start_ (n := 19) (S := fun w' => True) (ds := []) #[false, false, false, false, false, false, false, false, false, false, false, false, false, false, false, false, false, false, false] (by kernel_rfl) rfl rfl trivial (fun hHeld => ?_); refine with_tabW qav.tab1 qav.bits1 (fun HT_ HW_ => ?_)
  generalize w.drew = w9 at HB hHeld ⊢
  refine qbv (i := 0) (N := some 3) (v := ?_) (a' := ?_) #[true, false, false, false, false, false, false, false, false, false, false, false, false, false, false, false, false, false, false] rfl rfl (qbp HT_.out (by kernel_rfl)) (fun _ _ _ h => h) (Or.inl ⟨by rfl, ?_⟩) ?_ ?_
  rotate_left
  ·intro w'
   go_simp
   with_reducible rfl
  rotate_left
  ·simp only [Act.put, qSa, qSb, qSc, qbl, qbn]
   rfl
  refine one_ (i := 1) (N := some 4) #[true, true, false, false, false, false, false, false, false, false, false, false, false, false, false, false, false, false, false] rfl rfl (qb2 HT_.out (by kernel_rfl)) (by decide) (fun K hK => ?_)
  refine goes_ Try.func53 (by kernel_rfl) rfl #[.pointer (some g0_0)] (by rfl) rfl rfl (by (try simp only [List.map_toArray, List.map_cons, List.map_nil]); first | done | rfl | (simp only [List.length_drop, List.length_take]; rfl)) ?_
  with_reducible refine (qal.calls k (g0_0 : Addr) a0_0 A0_1 c0_1 l0_1 false _ ?side1 ?side2 ?side3 A2.out).mono ?_
  (case side1 => repeat (first | exact (Kd.qbt HR0_1.out HB.out) | (with_reducible refine Kd.CqA ?_ _) | (with_reducible refine Kd.CqN ?_ _) | (with_reducible refine Kd.CqD ?_)))
  (case side2 => exact HC0_1.out)
  (case side3 => repeat (first | exact (AtC.below BK40.out HB.out) | (with_reducible refine AtC.alloc ?_ _) | (with_reducible refine AtC.drewN ?_ _) | (with_reducible refine AtC.drew ?_)))
  rintro e w' ⟨rfl, ⟨nd, rfl⟩⟩
  refine ⟨_, rfl, ?_⟩
  refine hK.out _ _ trivial (fun hHeld => ?_)
  clear hK K
  refine qb0 (a' := ?_) ?_ ?_
  rotate_left
  ·show Act.put _ (some 4) _ = _
   simp only [Act.put, qSa, qSb, qSc, qbl, qbn]
   rfl
  refine qbv (i := 2) (N := some 5) (v := ?_) (a' := ?_) #[true, true, true, false, false, false, false, false, false, false, false, false, false, false, false, false, false, false, false] rfl rfl (qbp HT_.out (by kernel_rfl)) (fun _ _ _ h => h) (Or.inl ⟨by rfl, ?_⟩) ?_ ?_
  rotate_left
  ·intro w'
   go_simp
   with_reducible rfl
  rotate_left
  ·simp only [Act.put, qSa, qSb, qSc, qbl, qbn]
   rfl
  refine qbv (i := 3) (N := some 6) (v := undef) (a' := ?_) #[true, true, true, true, false, false, false, false, false, false, false, false, false, false, false, false, false, false, false] rfl rfl (qbp HT_.out (by kernel_rfl)) (fun _ _ _ h => h) (Or.inr ⟨by rfl, rfl⟩) ?_ ?_
  rotate_left
  ·simp only [Act.put, qSa, qSb, qSc, qbl, qbn]
   rfl
  refine qbv (i := 4) (N := some 7) (v := undef) (a' := ?_) #[true, true, true, true, true, false, false, false, false, false, false, false, false, false, false, false, false, false, false] rfl rfl (qbp HT_.out (by kernel_rfl)) (fun _ _ _ h => h) (Or.inr ⟨by rfl, rfl⟩) ?_ ?_
  rotate_left
  ·simp only [Act.put, qSa, qSb, qSc, qbl, qbn]
   rfl
  refine qbv (i := 5) (N := some 8) (v := undef) (a' := ?_) #[true, true, true, true, true, true, false, false, false, false, false, false, false, false, false, false, false, false, false] rfl rfl (qbp HT_.out (by kernel_rfl)) (fun _ _ _ h => h) (Or.inr ⟨by rfl, rfl⟩) ?_ ?_
  rotate_left
  ·simp only [Act.put, qSa, qSb, qSc, qbl, qbn]
   rfl
  refine qbv (i := 6) (N := some 9) (v := undef) (a' := ?_) #[true, true, true, true, true, true, true, false, false, false, false, false, false, false, false, false, false, false, false] rfl rfl (qbp HT_.out (by kernel_rfl)) (fun _ _ _ h => h) (Or.inr ⟨by rfl, rfl⟩) ?_ ?_
  rotate_left
  ·simp only [Act.put, qSa, qSb, qSc, qbl, qbn]
   rfl
  refine qbv (i := 7) (N := some 10) (v := undef) (a' := ?_) #[true, true, true, true, true, true, true, true, false, false, false, false, false, false, false, false, false, false, false] rfl rfl (qbp HT_.out (by kernel_rfl)) (fun _ _ _ h => h) (Or.inr ⟨by rfl, rfl⟩) ?_ ?_
  rotate_left
  ·simp only [Act.put, qSa, qSb, qSc, qbl, qbn]
   rfl
  refine qbv (i := 8) (N := some 11) (v := undef) (a' := ?_) #[true, true, true, true, true, true, true, true, true, false, false, false, false, false, false, false, false, false, false] rfl rfl (qbp HT_.out (by kernel_rfl)) (fun _ _ _ h => h) (Or.inr ⟨by rfl, rfl⟩) ?_ ?_
  rotate_left
  ·simp only [Act.put, qSa, qSb, qSc, qbl, qbn]
   rfl
  refine qbv (i := 9) (N := some 12) (v := undef) (a' := ?_) #[true, true, true, true, true, true, true, true, true, true, false, false, false, false, false, false, false, false, false] rfl rfl (qbp HT_.out (by kernel_rfl)) (fun _ _ _ h => h) (Or.inr ⟨by rfl, rfl⟩) ?_ ?_
  rotate_left
  ·simp only [Act.put, qSa, qSb, qSc, qbl, qbn]
   rfl
  refine qbv (i := 10) (N := some 13) (v := undef) (a' := ?_) #[true, true, true, true, true, true, true, true, true, true, true, false, false, false, false, false, false, false, false] rfl rfl (qbp HT_.out (by kernel_rfl)) (fun _ _ _ h => h) (Or.inr ⟨by rfl, rfl⟩) ?_ ?_
  rotate_left
  ·simp only [Act.put, qSa, qSb, qSc, qbl, qbn]
   rfl
  refine qbv (i := 11) (N := some 14) (v := undef) (a' := ?_) #[true, true, true, true, true, true, true, true, true, true, true, true, false, false, false, false, false, false, false] rfl rfl (qbp HT_.out (by kernel_rfl)) (fun _ _ _ h => h) (Or.inr ⟨by rfl, rfl⟩) ?_ ?_
  rotate_left
  ·simp only [Act.put, qSa, qSb, qSc, qbl, qbn]
   rfl
  refine qbv (i := 12) (N := some 15) (v := undef) (a' := ?_) #[true, true, true, true, true, true, true, true, true, true, true, true, true, false, false, false, false, false, false] rfl rfl (qbp HT_.out (by kernel_rfl)) (fun _ _ _ h => h) (Or.inr ⟨by rfl, rfl⟩) ?_ ?_
  rotate_left
  ·simp only [Act.put, qSa, qSb, qSc, qbl, qbn]
   rfl
  refine qbv (i := 13) (N := some 16) (v := undef) (a' := ?_) #[true, true, true, true, true, true, true, true, true, true, true, true, true, true, false, false, false, false, false] rfl rfl (qbp HT_.out (by kernel_rfl)) (fun _ _ _ h => h) (Or.inr ⟨by rfl, rfl⟩) ?_ ?_
  rotate_left
  ·simp only [Act.put, qSa, qSb, qSc, qbl, qbn]
   rfl
  refine qbv (i := 14) (N := some 17) (v := undef) (a' := ?_) #[true, true, true, true, true, true, true, true, true, true, true, true, true, true, true, false, false, false, false] rfl rfl (qbp HT_.out (by kernel_rfl)) (fun _ _ _ h => h) (Or.inr ⟨by rfl, rfl⟩) ?_ ?_
  rotate_left
  ·simp only [Act.put, qSa, qSb, qSc, qbl, qbn]
   rfl
  refine qbv (i := 15) (N := some 18) (v := undef) (a' := ?_) #[true, true, true, true, true, true, true, true, true, true, true, true, true, true, true, true, false, false, false] rfl rfl (qbp HT_.out (by kernel_rfl)) (fun _ _ _ h => h) (Or.inr ⟨by rfl, rfl⟩) ?_ ?_
  rotate_left
  ·simp only [Act.put, qSa, qSb, qSc, qbl, qbn]
   rfl
  refine qbv (i := 16) (N := some 19) (v := undef) (a' := ?_) #[true, true, true, true, true, true, true, true, true, true, true, true, true, true, true, true, true, false, false] rfl rfl (qbp HT_.out (by kernel_rfl)) (fun _ _ _ h => h) (Or.inr ⟨by rfl, rfl⟩) ?_ ?_
  rotate_left
  ·simp only [Act.put, qSa, qSb, qSc, qbl, qbn]
   rfl
  refine qbv (i := 17) (N := some 20) (v := ?_) (a' := ?_) #[true, true, true, true, true, true, true, true, true, true, true, true, true, true, true, true, true, true, false] rfl rfl (qbp HT_.out (by kernel_rfl)) (fun _ _ _ h => h) (Or.inl ⟨by rfl, ?_⟩) ?_ ?_
  rotate_left
  ·intro w'
   go_simp
   with_reducible rfl
  rotate_left
  ·simp only [Act.put, qSa, qSb, qSc, qbl, qbn]
   rfl
  refine qbv (i := 18) (N := some 2) (v := ?_) (a' := ?_) #[true, true, true, true, true, true, true, true, true, true, true, true, true, true, true, true, true, true, true] rfl rfl (qbp HT_.out (by kernel_rfl)) (fun _ _ _ h => h) (Or.inl ⟨by rfl, ?_⟩) ?_ ?_
  rotate_left
  ·intro w'
   go_simp
   with_reducible rfl
  rotate_left
  ·simp only [Act.put, qSa, qSb, qSc, qbl, qbn]
   rfl
  refine done_ (done_of HT_.out (by kernel_rfl)) ?_
  try go_wp2
  go_ret
  exact ⟨by first | rfl | (simp [errW_none, errW_some] <;> rfl) | (simp [*, errW_none, errW_some] <;> rfl), by repeat (first | (with_reducible first | exact HB.out | apply bQA | apply bQN | apply bQ1) | exact HB.out)⟩
end Go.Proofs.Ytbaicdgkpnbipaa.P
