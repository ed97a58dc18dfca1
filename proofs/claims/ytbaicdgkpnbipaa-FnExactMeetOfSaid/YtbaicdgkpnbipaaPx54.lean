/- Printed functions. -/
import Derived.Test.YtbaicdgkpnbipaaPx0
import Derived.Test.YtbaicdgkpnbipaaPx14
import Derived.Test.YtbaicdgkpnbipaaPx16
namespace Go.Proofs.Ytbaicdgkpnbipaa.P
open Go.Shelf Go.RowKit Go.Proofs.YtbaicdgkpnbipaaW.PrintWords Go.Proofs.YtbaicdgkpnbipaaW.PrintLast Go.Proofs.YtbaicdgkpnbipaaW.PrintMore
attribute [local go_sem] max2_int min2_int max_two min_two max_three min_three max_four min_four
set_option linter.unusedVariables false
set_option linter.unusedSimpArgs false
def qa1.f (k : Nat) (a0_0 : Int) (l0_1 : List Int) (a1_0 : Int) (l1_1 : List Int) : Option (Int × List Int) := (qag.f k a0_0 l0_1).bind fun bt1155 => ((qag.f k a1_0 l1_1).bind fun bt1160 => ((qa6.f k bt1155.1 bt1155.2 bt1160.1 bt1160.2).bind fun bt1165 => ((qag.f k bt1165.1 bt1165.2).bind fun bt1170 => (some (bt1170.1, bt1170.2)))))
theorem qa1.mono : ∀ a0 a1 a2 a3 k, LeO (qa1.f k a0 a1 a2 a3) (qa1.f (k + 1) a0 a1 a2 a3) := by
 intro a0 a1 a2 a3 k
 unfold qa1.f
 repeat' first
  | (with_reducible first | exact qag.mono _ _ _ | exact qa6.mono _ _ _ _ _ | exact LeO.refl _ | exact LeO.none _ | refine LeO.ite ?_ ?_ | refine LeO.bind ?_ (fun _ => ?_))
  | exact LeO.none _
  | refine LeO.ite ?_ ?_
  | refine LeO.bind ?_ (fun _ => ?_)
def qa1.T1 : Bool × List (List Nat × List Nat) := (true, [([], []), ([0], [0]), ([1], [1]), ([2], [2]), ([], []), ([4], [4]), ([5], [5]), ([6], [6]), ([3, 7], [3, 7]), ([], []), ([9, 8, 8, 0, 1, 2, 3, 4, 5, 6, 7, 8, 9], [8, 9])])
def qa1.B1 : List Nat := [0, 1, 3, 7, 0, 16, 48, 112, 255, 0, 1023]
theorem qa1.tab1 : rtab .any (opsOf Try.f94 1) = qa1.T1 := by kernel_rfl
theorem qa1.bits1 : waitsOk qa1.T1.2 qa1.B1 = true := by kernel_rfl
def qa1.T2 : Bool × List (List Nat × List Nat) := (true, [([], []), ([0], [0]), ([1], [1]), ([2], [2]), ([], []), ([4], [4]), ([5], [5]), ([6], [6]), ([3, 7], [3, 7]), ([], []), ([9, 8, 8, 0, 1, 2, 3, 4, 5, 6, 7, 8, 9], [8, 9])])
def qa1.B2 : List Nat := [0, 1, 3, 7, 0, 16, 48, 112, 255, 0, 1023]
theorem qa1.tab2 : rtab .any (opsOf Try.f94 2) = qa1.T2 := by kernel_rfl
theorem qa1.bits2 : waitsOk qa1.T2.2 qa1.B2 = true := by kernel_rfl
set_option maxHeartbeats 8000000 in
set_option maxRecDepth 100000 in
theorem qa1.calls (k : Nat) (g0_0 : Addr) (a0_0 : Int) (A0_1 : Option Addr) (c0_1 : Nat) (l0_1 : List Int) (g1_0 : Addr) (a1_0 : Int) (A1_1 : Option Addr) (c1_1 : Nat) (l1_1 : List Int) (r1 : Int) (r2 : List Int) (w : World) (hr0_1 : Kd.C (Kd.int .i64) w A0_1 l0_1.length l0_1) (hc0_1 : l0_1.length ≤ c0_1) (hr1_1 : Kd.C (Kd.int .i64) w A1_1 l1_1.length l1_1) (hc1_1 : l1_1.length ≤ c1_1) (hb0_0 : AtC w g0_0 [.int .i64 a0_0, .slice A0_1 l0_1.length c0_1]) (hb1_0 : AtC w g1_0 [.int .i64 a1_0, .slice A1_1 l1_1.length c1_1]) (h : qa1.f k a0_0 l0_1 a1_0 l1_1 = some (r1, r2)) :
 Calls Try.prog 94 #[.pointer (some g0_0), .pointer (some g1_0)] w fun e w' => ∃ v1_ : Value, e = .returned (.agg #[.int .i64 r1, v1_]) ∧ Kd.R (Kd.int .i64) 2 w' w.heap.size (fun _ => True) v1_ r2 ∧ Below w.heap.size w w' := by
 have hu26 := Try.underlying26
 have HR0_1 := Aq.mk hr0_1
 have HC0_1 := Aq.mk hc0_1
 clear hr0_1 hc0_1
 have HR1_1 := Aq.mk hr1_1
 have HC1_1 := Aq.mk hc1_1
 clear hr1_1 hc1_1
 have BK40 := Aq.mk hb0_0
 clear hb0_0
 have BK48 := Aq.mk hb1_0
 clear hb1_0
 have HB := Aq.mk (Below.refl w.heap.size w)
 have H : ((qag.f k a0_0 l0_1).bind fun bt1155 => ((qag.f k a1_0 l1_1).bind fun bt1160 => ((qa6.f k bt1155.1 bt1155.2 bt1160.1 bt1160.2).bind fun bt1165 => ((qag.f k bt1165.1 bt1165.2).bind fun bt1170 => (some (bt1170.1, bt1170.2)))))) = some (r1, r2) := h
 clear h
 replace H := Option.bind_eq_some_iff.mp H
 obtain ⟨⟨t1155, t1156⟩, A30, H⟩ := H
 replace H : ((qag.f k a1_0 l1_1).bind fun bt1160 => ((qa6.f k t1155 t1156 bt1160.1 bt1160.2).bind fun bt1165 => ((qag.f k bt1165.1 bt1165.2).bind fun bt1170 => (some (bt1170.1, bt1170.2))))) = some (r1, r2) := H
 have A3 := Aq.mk A30
 clear A30
 replace H := Option.bind_eq_some_iff.mp H
 obtain ⟨⟨t1160, t1161⟩, A40, H⟩ := H
 replace H : ((qa6.f k t1155 t1156 t1160 t1161).bind fun bt1165 => ((qag.f k bt1165.1 bt1165.2).bind fun bt1170 => (some (bt1170.1, bt1170.2)))) = some (r1, r2) := H
 have A4 := Aq.mk A40
 clear A40
 replace H := Option.bind_eq_some_iff.mp H
 obtain ⟨⟨t1165, t1166⟩, A50, H⟩ := H
 replace H : ((qag.f k t1165 t1166).bind fun bt1170 => (some (bt1170.1, bt1170.2))) = some (r1, r2) := H
 have A5 := Aq.mk A50
 clear A50
 replace H := Option.bind_eq_some_iff.mp H
 obtain ⟨⟨t1170, t1171⟩, A60, H⟩ := H
 replace H : (some (t1170, t1171)) = some (r1, r2) := H
 have A6 := Aq.mk A60
 clear A60
 simp only [Option.some.injEq, Prod.mk.injEq] at H
 obtain ⟨rfl, rfl⟩ := H
 go_enter Try.func94, Try.ntmps94
 try go_wp2_with (first | ((with_reducible refine gQd (N := 4) rfl ?_); refine xQe ?hg (N := 4) ?hd (cs := #[.int .i64 0, .slice none 0 0]) (t := 26) ?hr ?_; (case hd => rfl); (case hg => rfl); (case hr => first | (go_simp; done) | (go_simp; rfl)); intro gb1154 hg w7 hbox hb; have BK1154 := Aq.mk (hbox); have GW1154 := Aq.mk ((by rw [hg]; exact (bQZ (by repeat (with_reducible first | exact HB.out | apply bQA | apply bQN | apply bQ1))) : w.heap.size ≤ gb1154)); have GE1154 := Aq.mk ((by rw [hg]; exact (bQZ (by repeat (with_reducible first | exact HB.out | apply bQA | apply bQN | apply bQ1))) : w.heap.size ≤ gb1154)); replace HB := Aq.mk (bQT (by repeat (with_reducible first | exact HB.out | apply bQA | apply bQN | apply bQ1)) hb); clear hb hbox hg))
 replace BK1154 := Aq.mk (kQD BK1154.out)
 replace HB := Aq.mk (bQ1 HB.out)
 refine start_ (n := 11) (S := fun w' => w'.cell? g0_0 = some (.int .i64 a0_0) ∧ w'.cell? ⟨g0_0.block, g0_0.off + 1, none⟩ = some (.slice A0_1 l0_1.length c0_1)) (ds := []) #[false, false, false, false, false, false, false, false, false, false, false] (by kernel_rfl) rfl rfl ⟨((HB.out.cell (World.block_lt_of_cell? w _ (AtC.cell0 BK40.out _ rfl : w.cell? g0_0 = some (.int .i64 a0_0)))).trans (AtC.cell0 BK40.out _ rfl : w.cell? g0_0 = some (.int .i64 a0_0))), ((HB.out.cell (World.block_lt_of_cell? w _ (AtC.cell BK40.out 1 _ (by decide) rfl : w.cell? ⟨g0_0.block, g0_0.off + 1, none⟩ = some (.slice A0_1 l0_1.length c0_1)))).trans (AtC.cell BK40.out 1 _ (by decide) rfl : w.cell? ⟨g0_0.block, g0_0.off + 1, none⟩ = some (.slice A0_1 l0_1.length c0_1)))⟩ (fun hHeld => ?_); refine with_tabW qa1.tab1 qa1.bits1 (fun HT_ HW_ => ?_)
 generalize w7.drew = w8 at BK1154 HB hHeld ⊢
 refine qbv (i := 0) (N := some 8) (v := ?_) (a' := ?_) #[true, false, false, false, false, false, false, false, false, false, false] rfl rfl (qbp HT_.out (by kernel_rfl)) (fun _ _ _ h => h) (Or.inl ⟨by rfl, ?_⟩) ?_ ?_
 rotate_left
 ·intro w'
  go_simp
  with_reducible rfl
 rotate_left
 ·simp only [Act.put, qSa, qSb, qSc, qbl, qbn]
  rfl
 refine qbv (i := 1) (N := some 9) (v := ?_) (a' := ?_) #[true, true, false, false, false, false, false, false, false, false, false] rfl rfl (qbp HT_.out (by kernel_rfl)) (fun _ _ _ h => h) (Or.inl ⟨by rfl, ?_⟩) ?_ ?_
 rotate_left
 ·intro w'
  go_simp
  with_reducible rfl
 rotate_left
 ·simp only [Act.put, qSa, qSb, qSc, qbl, qbn]
  rfl
 refine qbv (i := 2) (N := some 10) (v := ?_) (a' := ?_) #[true, true, true, false, false, false, false, false, false, false, false] rfl rfl (qbp HT_.out (by kernel_rfl)) (fun _ _ _ h => h) (Or.inl ⟨by rfl, ?_⟩) ?_ ?_
 rotate_left
 ·intro w'
  go_simp
  with_reducible rfl
 rotate_left
 ·simp only [Act.put, qSa, qSb, qSc, qbl, qbn]
  rfl
 refine qbv (i := 4) (N := some 12) (v := ?_) (a' := ?_) #[true, true, true, false, true, false, false, false, false, false, false] rfl rfl (qbp HT_.out (by kernel_rfl)) (fun _ _ _ h => h) (Or.inl ⟨by rfl, ?_⟩) ?_ ?_
 rotate_left
 ·intro w'
  go_simp
  with_reducible rfl
 rotate_left
 ·simp only [Act.put, qSa, qSb, qSc, qbl, qbn]
  rfl
 refine qbv (i := 5) (N := some 13) (v := ?_) (a' := ?_) #[true, true, true, false, true, true, false, false, false, false, false] rfl rfl (qbp HT_.out (by kernel_rfl)) (fun _ _ _ h => h) (Or.inl ⟨by rfl, ?_⟩) ?_ ?_
 rotate_left
 ·intro w'
  go_simp
  with_reducible rfl
 rotate_left
 ·simp only [Act.put, qSa, qSb, qSc, qbl, qbn]
  rfl
 refine qbv (i := 6) (N := some 14) (v := ?_) (a' := ?_) #[true, true, true, false, true, true, true, false, false, false, false] rfl rfl (qbp HT_.out (by kernel_rfl)) (fun _ _ _ h => h) (Or.inl ⟨by rfl, ?_⟩) ?_ ?_
 rotate_left
 ·intro w'
  go_simp
  with_reducible rfl
 rotate_left
 ·simp only [Act.put, qSa, qSb, qSc, qbl, qbn]
  rfl
 refine take_ (i := 3) (N := some 11) (v := ?_) (a' := ?_) #[true, true, true, true, true, true, true, false, false, false, false] rfl rfl (qb1 HT_.out HW_.out (by kernel_rfl)) (fun _ _ _ h => h) (Or.inl ⟨by rfl, ?_⟩) hHeld ?_ ?_
 rotate_left
 ·rintro w' ⟨s0, s1⟩
  go_simp
  with_reducible rfl
 rotate_left
 ·simp only [Act.put, qSa, qSb, qSc, qbl, qbn]
  rfl
 refine take_ (i := 7) (N := some 15) (v := ?_) (a' := ?_) #[true, true, true, true, true, true, true, true, false, false, false] rfl rfl (qb1 HT_.out HW_.out (by kernel_rfl)) (fun _ _ _ h => h) (Or.inl ⟨by rfl, ?_⟩) hHeld ?_ ?_
 rotate_left
 ·rintro w' ⟨s0, s1⟩
  go_simp
  with_reducible rfl
 rotate_left
 ·simp only [Act.put, qSa, qSb, qSc, qbl, qbn]
  rfl
 refine join_ (σ := Value × Nat) 1 #[true, true, true, true, true, true, true, true, true, true, false] (fun s_ => [(16, .agg #[.int .i64 t1155, s_.1]), (5, .pointer (some ⟨s_.2, 0, none⟩))]) (fun s_ w' => (w'.cell? g0_0 = some (.int .i64 a0_0) ∧ w'.cell? ⟨g0_0.block, g0_0.off + 1, none⟩ = some (.slice A0_1 l0_1.length c0_1)) ∧ (Kd.R (Kd.int .i64) 2 w' w.heap.size (fun _ => True) s_.1 t1156) ∧ (w'.heap[gb1154]? = some (.cells #[.int .i64 0, .slice none 0 0] 26 (0, 0))) ∧ (w'.heap[s_.2]? = some (.cells #[.int .i64 0, .slice none 0 0] 26 (0, 0))) ∧ (w.heap.size ≤ s_.2) ∧ (w.heap.size ≤ s_.2) ∧ (gb1154 ≠ s_.2) ∧ (s_.2 ≠ gb1154) ∧ (Below w.heap.size w w')) ?_ ?_
 rotate_left
 ·intro hCont
  refine two_ (i := 8) (j := 9) (Ni := some 16) (Nj := some 5) #[true, true, true, true, true, true, true, true, true, false, false] #[true, true, true, true, true, true, true, true, false, true, false] rfl rfl rfl rfl (two_of HT_.out (by kernel_rfl)) (by decide) (by decide) (fun K hK => ?_) (fun K hK => ?_)
  ·skip
   refine goes_ Try.func54 (by kernel_rfl) rfl #[.int .i64 a0_0, .slice A0_1 l0_1.length c0_1] (by rfl) rfl rfl (by (try simp only [List.map_toArray, List.map_cons, List.map_nil]); first | done | rfl | (simp only [List.length_drop, List.length_take]; rfl)) ?_
   with_reducible refine (qag.calls k a0_0 _ _ l0_1 t1155 t1156 _ ?side1 ?side2 A3.out).mono ?_
   (case side1 => repeat (first | exact (Kd.qbt HR0_1.out HB.out) | (with_reducible refine Kd.CqA ?_ _) | (with_reducible refine Kd.CqN ?_ _) | (with_reducible refine Kd.CqD ?_)))
   (case side2 => exact HC0_1.out)
   rintro e w9 ⟨v1157, rfl, ho0, hb⟩
   refine ⟨_, rfl, ?_⟩
   have HO1158 := Aq.mk (Kd.qbx ho0 (bQZ (by repeat (with_reducible first | exact HB.out | apply bQA | apply bQN | apply bQ1 | refine bQS ?_ GE1154.out))))
   replace BK1154 := Aq.mk (kQB (by (with_reducible repeat (first | refine kQN ?_ _ | refine kQD ?_ | refine kQA ?_ _)); exact BK1154.out) hb)
   replace HB := Aq.mk (bQT (by repeat (with_reducible first | exact HB.out | apply bQA | apply bQN | apply bQ1 | refine bQS ?_ GE1154.out)) hb)
   (try clear hb)
   (try clear hb2)
   (try clear hk)
   (try clear hi)
   (try clear ho0)
   refine hK.out _ _ ⟨((HB.out.cell (World.block_lt_of_cell? w _ (AtC.cell0 BK40.out _ rfl : w.cell? g0_0 = some (.int .i64 a0_0)))).trans (AtC.cell0 BK40.out _ rfl : w.cell? g0_0 = some (.int .i64 a0_0))), ((HB.out.cell (World.block_lt_of_cell? w _ (AtC.cell BK40.out 1 _ (by decide) rfl : w.cell? ⟨g0_0.block, g0_0.off + 1, none⟩ = some (.slice A0_1 l0_1.length c0_1)))).trans (AtC.cell BK40.out 1 _ (by decide) rfl : w.cell? ⟨g0_0.block, g0_0.off + 1, none⟩ = some (.slice A0_1 l0_1.length c0_1)))⟩ (fun hHeld => ?_)
   clear hK K
   refine qb0 (a' := ?_) ?_ ?_
   rotate_left
   ·show Act.put _ (some 16) _ = _
    simp only [Act.put, qSa, qSb, qSc, qbl, qbn]
    rfl
   refine one_ (i := 9) (N := some 5) #[true, true, true, true, true, true, true, true, true, true, false] rfl rfl (qb2 HT_.out (by kernel_rfl)) (by decide) (fun K hK => ?_)
   refine box_step ?hg (N := 5) ?hd (cs := #[.int .i64 0, .slice none 0 0]) (t := 26) ?hr ?_; (case hd => rfl); (case hg => rfl); (case hr => first | (go_simp; done) | (go_simp; rfl))
   intro gb1159 hg w10 hbox hb
   replace HO1158 := Aq.mk (Kd.qbk (by (with_reducible repeat (first | apply rA | apply rN | apply rD)); exact HO1158.out) hb)
   have BK1159 := Aq.mk (hbox)
   have GW1159 := Aq.mk ((by rw [hg]; exact (bQZ (by repeat (with_reducible first | exact HB.out | apply bQA | apply bQN | apply bQ1 | refine bQS ?_ GE1154.out))) : w.heap.size ≤ gb1159))
   have GE1159 := Aq.mk ((by rw [hg]; exact (bQZ (by repeat (with_reducible first | exact HB.out | apply bQA | apply bQN | apply bQ1 | refine bQS ?_ GE1154.out))) : w.heap.size ≤ gb1159))
   replace HB := Aq.mk (bQT (by repeat (with_reducible first | exact HB.out | apply bQA | apply bQN | apply bQ1 | refine bQS ?_ GE1154.out)) hb)
   have NB1154_1159 := Aq.mk ((by rw [hg]; exact Nat.ne_of_lt (qbo (g := gb1154) (o := .cells #[.int .i64 0, .slice none 0 0] 26 (0, 0)) (by (with_reducible repeat (first | refine kQN ?_ _ | refine kQD ?_ | refine kQA ?_ _)); exact BK1154.out)) : gb1154 ≠ gb1159))
   have NB1159_1154 := Aq.mk ((by rw [hg]; exact Nat.ne_of_gt (qbo (g := gb1154) (o := .cells #[.int .i64 0, .slice none 0 0] 26 (0, 0)) (by (with_reducible repeat (first | refine kQN ?_ _ | refine kQD ?_ | refine kQA ?_ _)); exact BK1154.out)) : gb1159 ≠ gb1154))
   replace BK1154 := Aq.mk (kQB (by (with_reducible repeat (first | refine kQN ?_ _ | refine kQD ?_ | refine kQA ?_ _)); exact BK1154.out) hb)
   clear hb hbox hg
   refine hK.out _ _ ⟨((HB.out.cell (World.block_lt_of_cell? w _ (AtC.cell0 BK40.out _ rfl : w.cell? g0_0 = some (.int .i64 a0_0)))).trans (AtC.cell0 BK40.out _ rfl : w.cell? g0_0 = some (.int .i64 a0_0))), ((HB.out.cell (World.block_lt_of_cell? w _ (AtC.cell BK40.out 1 _ (by decide) rfl : w.cell? ⟨g0_0.block, g0_0.off + 1, none⟩ = some (.slice A0_1 l0_1.length c0_1)))).trans (AtC.cell BK40.out 1 _ (by decide) rfl : w.cell? ⟨g0_0.block, g0_0.off + 1, none⟩ = some (.slice A0_1 l0_1.length c0_1)))⟩ (fun hHeld => ?_)
   clear hK K
   refine qb0 (a' := ?_) ?_ ?_
   rotate_left
   ·show Act.put _ (some 5) _ = _
    simp only [Act.put, qSa, qSb, qSc, qbl, qbn]
    rfl
   exact qb0 (by simp only [putAll, Act.put, qSa, qSb, qSc]) (hCont (v1157, gb1159) _ ⟨hHeld, (by (with_reducible repeat (first | apply rA | apply rN | apply rD)); exact HO1158.out), (by (with_reducible repeat (first | refine kQN ?_ _ | refine kQD ?_ | refine kQA ?_ _)); exact BK1154.out), (by (with_reducible repeat (first | refine kQN ?_ _ | refine kQD ?_ | refine kQA ?_ _)); exact BK1159.out), GW1159.out, GE1159.out, NB1154_1159.out, NB1159_1154.out, (by repeat (with_reducible first | exact HB.out | apply bQA | apply bQN | apply bQ1 | refine bQS ?_ GE1154.out | refine bQS ?_ GE1159.out))⟩)
  ·skip
   refine box_step ?hg (N := 5) ?hd (cs := #[.int .i64 0, .slice none 0 0]) (t := 26) ?hr ?_; (case hd => rfl); (case hg => rfl); (case hr => first | (go_simp; done) | (go_simp; rfl))
   intro gb1159 hg w9 hbox hb
   have BK1159 := Aq.mk (hbox)
   have GW1159 := Aq.mk ((by rw [hg]; exact (bQZ (by repeat (with_reducible first | exact HB.out | apply bQA | apply bQN | apply bQ1 | refine bQS ?_ GE1154.out))) : w.heap.size ≤ gb1159))
   have GE1159 := Aq.mk ((by rw [hg]; exact (bQZ (by repeat (with_reducible first | exact HB.out | apply bQA | apply bQN | apply bQ1 | refine bQS ?_ GE1154.out))) : w.heap.size ≤ gb1159))
   replace HB := Aq.mk (bQT (by repeat (with_reducible first | exact HB.out | apply bQA | apply bQN | apply bQ1 | refine bQS ?_ GE1154.out)) hb)
   have NB1154_1159 := Aq.mk ((by rw [hg]; exact Nat.ne_of_lt (qbo (g := gb1154) (o := .cells #[.int .i64 0, .slice none 0 0] 26 (0, 0)) (by (with_reducible repeat (first | refine kQN ?_ _ | refine kQD ?_ | refine kQA ?_ _)); exact BK1154.out)) : gb1154 ≠ gb1159))
   have NB1159_1154 := Aq.mk ((by rw [hg]; exact Nat.ne_of_gt (qbo (g := gb1154) (o := .cells #[.int .i64 0, .slice none 0 0] 26 (0, 0)) (by (with_reducible repeat (first | refine kQN ?_ _ | refine kQD ?_ | refine kQA ?_ _)); exact BK1154.out)) : gb1159 ≠ gb1154))
   replace BK1154 := Aq.mk (kQB (by (with_reducible repeat (first | refine kQN ?_ _ | refine kQD ?_ | refine kQA ?_ _)); exact BK1154.out) hb)
   clear hb hbox hg
   refine hK.out _ _ ⟨((HB.out.cell (World.block_lt_of_cell? w _ (AtC.cell0 BK40.out _ rfl : w.cell? g0_0 = some (.int .i64 a0_0)))).trans (AtC.cell0 BK40.out _ rfl : w.cell? g0_0 = some (.int .i64 a0_0))), ((HB.out.cell (World.block_lt_of_cell? w _ (AtC.cell BK40.out 1 _ (by decide) rfl : w.cell? ⟨g0_0.block, g0_0.off + 1, none⟩ = some (.slice A0_1 l0_1.length c0_1)))).trans (AtC.cell BK40.out 1 _ (by decide) rfl : w.cell? ⟨g0_0.block, g0_0.off + 1, none⟩ = some (.slice A0_1 l0_1.length c0_1)))⟩ (fun hHeld => ?_)
   clear hK K
   refine qb0 (a' := ?_) ?_ ?_
   rotate_left
   ·show Act.put _ (some 5) _ = _
    simp only [Act.put, qSa, qSb, qSc, qbl, qbn]
    rfl
   refine one_ (i := 8) (N := some 16) #[true, true, true, true, true, true, true, true, true, true, false] rfl rfl (qb2 HT_.out (by kernel_rfl)) (by decide) (fun K hK => ?_)
   refine goes_ Try.func54 (by kernel_rfl) rfl #[.int .i64 a0_0, .slice A0_1 l0_1.length c0_1] (by rfl) rfl rfl (by (try simp only [List.map_toArray, List.map_cons, List.map_nil]); first | done | rfl | (simp only [List.length_drop, List.length_take]; rfl)) ?_
   with_reducible refine (qag.calls k a0_0 _ _ l0_1 t1155 t1156 _ ?side1 ?side2 A3.out).mono ?_
   (case side1 => repeat (first | exact (Kd.qbt HR0_1.out HB.out) | (with_reducible refine Kd.CqA ?_ _) | (with_reducible refine Kd.CqN ?_ _) | (with_reducible refine Kd.CqD ?_)))
   (case side2 => exact HC0_1.out)
   rintro e w10 ⟨v1157, rfl, ho0, hb⟩
   refine ⟨_, rfl, ?_⟩
   have HO1158 := Aq.mk (Kd.qbx ho0 (bQZ (by repeat (with_reducible first | exact HB.out | apply bQA | apply bQN | apply bQ1 | refine bQS ?_ GE1154.out | refine bQS ?_ GE1159.out))))
   replace BK1154 := Aq.mk (kQB (by (with_reducible repeat (first | refine kQN ?_ _ | refine kQD ?_ | refine kQA ?_ _)); exact BK1154.out) hb)
   replace BK1159 := Aq.mk (kQB (by (with_reducible repeat (first | refine kQN ?_ _ | refine kQD ?_ | refine kQA ?_ _)); exact BK1159.out) hb)
   replace HB := Aq.mk (bQT (by repeat (with_reducible first | exact HB.out | apply bQA | apply bQN | apply bQ1 | refine bQS ?_ GE1154.out | refine bQS ?_ GE1159.out)) hb)
   (try clear hb)
   (try clear hb2)
   (try clear hk)
   (try clear hi)
   (try clear ho0)
   refine hK.out _ _ ⟨((HB.out.cell (World.block_lt_of_cell? w _ (AtC.cell0 BK40.out _ rfl : w.cell? g0_0 = some (.int .i64 a0_0)))).trans (AtC.cell0 BK40.out _ rfl : w.cell? g0_0 = some (.int .i64 a0_0))), ((HB.out.cell (World.block_lt_of_cell? w _ (AtC.cell BK40.out 1 _ (by decide) rfl : w.cell? ⟨g0_0.block, g0_0.off + 1, none⟩ = some (.slice A0_1 l0_1.length c0_1)))).trans (AtC.cell BK40.out 1 _ (by decide) rfl : w.cell? ⟨g0_0.block, g0_0.off + 1, none⟩ = some (.slice A0_1 l0_1.length c0_1)))⟩ (fun hHeld => ?_)
   clear hK K
   refine qb0 (a' := ?_) ?_ ?_
   rotate_left
   ·show Act.put _ (some 16) _ = _
    simp only [Act.put, qSa, qSb, qSc, qbl, qbn]
    rfl
   exact qb0 (by simp only [putAll, Act.put, qSa, qSb, qSc]) (hCont (v1157, gb1159) _ ⟨hHeld, (by (with_reducible repeat (first | apply rA | apply rN | apply rD)); exact HO1158.out), (by (with_reducible repeat (first | refine kQN ?_ _ | refine kQD ?_ | refine kQA ?_ _)); exact BK1154.out), (by (with_reducible repeat (first | refine kQN ?_ _ | refine kQD ?_ | refine kQA ?_ _)); exact BK1159.out), GW1159.out, GE1159.out, NB1154_1159.out, NB1159_1154.out, (by repeat (with_reducible first | exact HB.out | apply bQA | apply bQN | apply bQ1 | refine bQS ?_ GE1154.out | refine bQS ?_ GE1159.out))⟩)
 rintro ⟨v1157, gb1159⟩ w11 ⟨hS_, h0_, h1_, h2_, h3_, h4_, h5_, h6_, h7_⟩
 have n0_ : Aq (Kd.R (Kd.int .i64) 2 w11 w.heap.size (fun _ => True) v1157 t1156) := ⟨h0_⟩
 have n1_ : Aq (w11.heap[gb1154]? = some (.cells #[.int .i64 0, .slice none 0 0] 26 (0, 0))) := ⟨h1_⟩
 have n2_ : Aq (w11.heap[gb1159]? = some (.cells #[.int .i64 0, .slice none 0 0] 26 (0, 0))) := ⟨h2_⟩
 have n3_ : Aq (w.heap.size ≤ gb1159) := ⟨h3_⟩
 have n4_ : Aq (w.heap.size ≤ gb1159) := ⟨h4_⟩
 have n5_ : Aq (gb1154 ≠ gb1159) := ⟨h5_⟩
 have n6_ : Aq (gb1159 ≠ gb1154) := ⟨h6_⟩
 have n7_ : Aq (Below w.heap.size w w11) := ⟨h7_⟩
 clear BK1154
 clear HB
 clear h0_ h1_ h2_ h3_ h4_ h5_ h6_ h7_
 have HO1158 := n0_
 have BK1154 := n1_
 have BK1159 := n2_
 have GW1159 := n3_
 have GE1159 := n4_
 have NB1154_1159 := n5_
 have NB1159_1154 := n6_
 have HB := n7_
 clear n0_ n1_ n2_ n3_ n4_ n5_ n6_ n7_
 have hHeld : w11.cell? g0_0 = some (.int .i64 a0_0) ∧ w11.cell? ⟨g0_0.block, g0_0.off + 1, none⟩ = some (.slice A0_1 l0_1.length c0_1) := hS_
 obtain ⟨Ao13, co13, eo13⟩ := Kd.qbw HO1158.out
 (first | subst eo13 | (injection eo13 with f1_ f2_ f3_; have f4_ := f1_.symm; have f5_ := f3_.symm; clear f1_ f2_ f3_; subst f4_; subst f5_))
 refine qb0 (a' := ?_) ?_ ?_
 rotate_left
 ·simp only [putAll, Act.put, qSa, qSb, qSc]
  rfl
 refine one_ (i := 10) (N := none) #[true, true, true, true, true, true, true, true, true, true, true] rfl rfl (qb2 HT_.out (by kernel_rfl)) (by decide) (fun K hK => ?_)
 have hs12 : w11.cell? ⟨gb1159, 0, none⟩ = some (.int .i64 0) := (kQC BK1159.out 0).trans rfl
 have hfs12 := kQF BK1159.out 0
 have hns12_0 := NB1154_1159.out
 have hms12_0 := NB1159_1154.out
 have hs14 : w11.cell? ⟨gb1159, 1, none⟩ = some (.slice none 0 0) := (kQC BK1159.out 1).trans rfl
 have hfs14 := kQF BK1159.out 1
 have hns14_0 := NB1154_1159.out
 have hms14_0 := NB1159_1154.out
 refine skip_ (w1 := ?_) (by rfl) rfl ?_ ?_
 rotate_left
 ·go_simp
  rfl
 refine hK.out _ _ ⟨((cell_far (p := ⟨gb1159, _, none⟩) (by first | exact AtC.ne BK40.out GW1159.out | (rw [add_block]; exact AtC.ne BK40.out GW1159.out) | (show (Addr.add _ _).block ≠ _; rw [add_block]; exact AtC.ne BK40.out GW1159.out) | (dsimp only; exact AtC.ne BK40.out GW1159.out)) _).trans (((cell_far (p := ⟨gb1159, _, none⟩) (by first | exact AtC.ne BK40.out GW1159.out | (rw [add_block]; exact AtC.ne BK40.out GW1159.out) | (show (Addr.add _ _).block ≠ _; rw [add_block]; exact AtC.ne BK40.out GW1159.out) | (dsimp only; exact AtC.ne BK40.out GW1159.out)) _).trans (hHeld.1)))), ((cell_far (p := ⟨gb1159, _, none⟩) (by first | exact AtC.ne BK40.out GW1159.out | (rw [add_block]; exact AtC.ne BK40.out GW1159.out) | (show (Addr.add _ _).block ≠ _; rw [add_block]; exact AtC.ne BK40.out GW1159.out) | (dsimp only; exact AtC.ne BK40.out GW1159.out)) _).trans (((cell_far (p := ⟨gb1159, _, none⟩) (by first | exact AtC.ne BK40.out GW1159.out | (rw [add_block]; exact AtC.ne BK40.out GW1159.out) | (show (Addr.add _ _).block ≠ _; rw [add_block]; exact AtC.ne BK40.out GW1159.out) | (dsimp only; exact AtC.ne BK40.out GW1159.out)) _).trans (hHeld.2))))⟩ (fun hHeld => ?_)
 clear hK K
 refine done_ (done_of HT_.out (by kernel_rfl)) ?_
 try go_wp2
 have n0_ : Aq (Kd.R (Kd.int .i64) 2 ((w11.setCell ⟨gb1159, 0, none⟩ (.int .i64 t1155)).setCell ⟨gb1159, 1, none⟩ (.slice Ao13 t1156.length co13)) w.heap.size (fun _ => True) (.slice Ao13 t1156.length co13) t1156) := ⟨by (with_reducible repeat (first | apply rA | apply rN | apply rD)); exact Kd.qbj (Kd.qbs (p := ⟨gb1159, 1, none⟩) (Kd.qbs (p := ⟨gb1159, 0, none⟩) (Kd.qbq HO1158.out BK1159.out (by decide)) (fun _ hk => hk.2) (.int .i64 t1155)) (fun _ hk => hk.2) (.slice Ao13 t1156.length co13)) (fun _ hk => trivial)⟩
 have n1_ : Aq (((w11.setCell ⟨gb1159, 0, none⟩ (.int .i64 t1155)).setCell ⟨gb1159, 1, none⟩ (.slice Ao13 t1156.length co13)).heap[gb1154]? = some (.cells #[.int .i64 0, .slice none 0 0] 26 (0, 0))) := ⟨by (with_reducible repeat (first | refine kQN ?_ _ | refine kQD ?_ | refine kQA ?_ _)); refine kQR ?_ NB1154_1159.out _; (with_reducible repeat (first | refine kQN ?_ _ | refine kQD ?_ | refine kQA ?_ _)); refine kQR ?_ NB1154_1159.out _; (with_reducible repeat (first | refine kQN ?_ _ | refine kQD ?_ | refine kQA ?_ _)); exact BK1154.out⟩
 have n2_ : Aq (((w11.setCell ⟨gb1159, 0, none⟩ (.int .i64 t1155)).setCell ⟨gb1159, 1, none⟩ (.slice Ao13 t1156.length co13)).heap[gb1159]? = some (.cells #[.int .i64 t1155, .slice Ao13 t1156.length co13] 26 (0, 0))) := ⟨by (with_reducible repeat (first | refine kQN ?_ _ | refine kQD ?_ | refine kQA ?_ _)); refine kQP (cs := #[.int .i64 t1155, .slice none 0 0]) ?_ 1 _ rfl; (with_reducible repeat (first | refine kQN ?_ _ | refine kQD ?_ | refine kQA ?_ _)); refine kQP (cs := #[.int .i64 0, .slice none 0 0]) ?_ 0 _ rfl; (with_reducible repeat (first | refine kQN ?_ _ | refine kQD ?_ | refine kQA ?_ _)); exact BK1159.out⟩
 have n3_ : Aq (Below w.heap.size w ((w11.setCell ⟨gb1159, 0, none⟩ (.int .i64 t1155)).setCell ⟨gb1159, 1, none⟩ (.slice Ao13 t1156.length co13))) := ⟨by repeat (first | (with_reducible first | exact HB.out | apply bQA | apply bQN | apply bQ1 | refine bQS ?_ GE1154.out | refine bQS ?_ GE1159.out) | exact HB.out)⟩
 (try clear HO1158)
 (try clear BK1154)
 (try clear BK1159)
 (try clear HB)
 generalize ((w11.setCell ⟨gb1159, 0, none⟩ (.int .i64 t1155)).setCell ⟨gb1159, 1, none⟩ (.slice Ao13 t1156.length co13)) = w15 at n0_ n1_ n2_ n3_ ⊢
 have HO1158 := n0_
 have BK1154 := n1_
 have BK1159 := n2_
 have HB := n3_
 clear n0_ n1_ n2_ n3_
 replace HO1158 := Aq.mk (Kd.RqD HO1158.out)
 replace BK1154 := Aq.mk (kQD BK1154.out)
 replace BK1159 := Aq.mk (kQD BK1159.out)
 replace HB := Aq.mk (bQ1 HB.out)
 refine start_ (n := 11) (S := fun w' => w'.cell? g1_0 = some (.int .i64 a1_0) ∧ w'.cell? ⟨g1_0.block, g1_0.off + 1, none⟩ = some (.slice A1_1 l1_1.length c1_1)) (ds := []) #[false, false, false, false, false, false, false, false, false, false, false] (by kernel_rfl) rfl rfl ⟨((HB.out.cell (World.block_lt_of_cell? w _ (AtC.cell0 BK48.out _ rfl : w.cell? g1_0 = some (.int .i64 a1_0)))).trans (AtC.cell0 BK48.out _ rfl : w.cell? g1_0 = some (.int .i64 a1_0))), ((HB.out.cell (World.block_lt_of_cell? w _ (AtC.cell BK48.out 1 _ (by decide) rfl : w.cell? ⟨g1_0.block, g1_0.off + 1, none⟩ = some (.slice A1_1 l1_1.length c1_1)))).trans (AtC.cell BK48.out 1 _ (by decide) rfl : w.cell? ⟨g1_0.block, g1_0.off + 1, none⟩ = some (.slice A1_1 l1_1.length c1_1)))⟩ (fun hHeld => ?_); refine with_tabW qa1.tab2 qa1.bits2 (fun HT_ HW_ => ?_)
 generalize w15.drew = w16 at HO1158 BK1154 BK1159 HB hHeld ⊢
 refine qbv (i := 0) (N := some 17) (v := ?_) (a' := ?_) #[true, false, false, false, false, false, false, false, false, false, false] rfl rfl (qbp HT_.out (by kernel_rfl)) (fun _ _ _ h => h) (Or.inl ⟨by rfl, ?_⟩) ?_ ?_
 rotate_left
 ·intro w'
  go_simp
  with_reducible rfl
 rotate_left
 ·simp only [Act.put, qSa, qSb, qSc, qbl, qbn]
  rfl
 refine qbv (i := 1) (N := some 18) (v := ?_) (a' := ?_) #[true, true, false, false, false, false, false, false, false, false, false] rfl rfl (qbp HT_.out (by kernel_rfl)) (fun _ _ _ h => h) (Or.inl ⟨by rfl, ?_⟩) ?_ ?_
 rotate_left
 ·intro w'
  go_simp
  with_reducible rfl
 rotate_left
 ·simp only [Act.put, qSa, qSb, qSc, qbl, qbn]
  rfl
 refine qbv (i := 2) (N := some 19) (v := ?_) (a' := ?_) #[true, true, true, false, false, false, false, false, false, false, false] rfl rfl (qbp HT_.out (by kernel_rfl)) (fun _ _ _ h => h) (Or.inl ⟨by rfl, ?_⟩) ?_ ?_
 rotate_left
 ·intro w'
  go_simp
  with_reducible rfl
 rotate_left
 ·simp only [Act.put, qSa, qSb, qSc, qbl, qbn]
  rfl
 refine qbv (i := 4) (N := some 21) (v := ?_) (a' := ?_) #[true, true, true, false, true, false, false, false, false, false, false] rfl rfl (qbp HT_.out (by kernel_rfl)) (fun _ _ _ h => h) (Or.inl ⟨by rfl, ?_⟩) ?_ ?_
 rotate_left
 ·intro w'
  go_simp
  with_reducible rfl
 rotate_left
 ·simp only [Act.put, qSa, qSb, qSc, qbl, qbn]
  rfl
 refine qbv (i := 5) (N := some 22) (v := ?_) (a' := ?_) #[true, true, true, false, true, true, false, false, false, false, false] rfl rfl (qbp HT_.out (by kernel_rfl)) (fun _ _ _ h => h) (Or.inl ⟨by rfl, ?_⟩) ?_ ?_
 rotate_left
 ·intro w'
  go_simp
  with_reducible rfl
 rotate_left
 ·simp only [Act.put, qSa, qSb, qSc, qbl, qbn]
  rfl
 refine qbv (i := 6) (N := some 23) (v := ?_) (a' := ?_) #[true, true, true, false, true, true, true, false, false, false, false] rfl rfl (qbp HT_.out (by kernel_rfl)) (fun _ _ _ h => h) (Or.inl ⟨by rfl, ?_⟩) ?_ ?_
 rotate_left
 ·intro w'
  go_simp
  with_reducible rfl
 rotate_left
 ·simp only [Act.put, qSa, qSb, qSc, qbl, qbn]
  rfl
 refine take_ (i := 3) (N := some 20) (v := ?_) (a' := ?_) #[true, true, true, true, true, true, true, false, false, false, false] rfl rfl (qb1 HT_.out HW_.out (by kernel_rfl)) (fun _ _ _ h => h) (Or.inl ⟨by rfl, ?_⟩) hHeld ?_ ?_
 rotate_left
 ·rintro w' ⟨s0, s1⟩
  go_simp
  with_reducible rfl
 rotate_left
 ·simp only [Act.put, qSa, qSb, qSc, qbl, qbn]
  rfl
 refine take_ (i := 7) (N := some 24) (v := ?_) (a' := ?_) #[true, true, true, true, true, true, true, true, false, false, false] rfl rfl (qb1 HT_.out HW_.out (by kernel_rfl)) (fun _ _ _ h => h) (Or.inl ⟨by rfl, ?_⟩) hHeld ?_ ?_
 rotate_left
 ·rintro w' ⟨s0, s1⟩
  go_simp
  with_reducible rfl
 rotate_left
 ·simp only [Act.put, qSa, qSb, qSc, qbl, qbn]
  rfl
 refine join_ (σ := Value × Nat) 1 #[true, true, true, true, true, true, true, true, true, true, false] (fun s_ => [(25, .agg #[.int .i64 t1160, s_.1]), (6, .pointer (some ⟨s_.2, 0, none⟩))]) (fun s_ w' => (w'.cell? g1_0 = some (.int .i64 a1_0) ∧ w'.cell? ⟨g1_0.block, g1_0.off + 1, none⟩ = some (.slice A1_1 l1_1.length c1_1)) ∧ (Kd.R (Kd.int .i64) 2 w' w.heap.size (fun k_ => some k_ ≠ (s_.1 : Value).ownBlock) (.slice Ao13 t1156.length co13) t1156) ∧ (Kd.R (Kd.int .i64) 2 w' w.heap.size (fun k_ => some k_ ≠ (.slice Ao13 t1156.length co13 : Value).ownBlock) s_.1 t1161) ∧ (w'.heap[gb1154]? = some (.cells #[.int .i64 0, .slice none 0 0] 26 (0, 0))) ∧ (w'.heap[gb1159]? = some (.cells #[.int .i64 t1155, .slice Ao13 t1156.length co13] 26 (0, 0))) ∧ (w'.heap[s_.2]? = some (.cells #[.int .i64 0, .slice none 0 0] 26 (0, 0))) ∧ (w.heap.size ≤ s_.2) ∧ (w.heap.size ≤ s_.2) ∧ (gb1154 ≠ s_.2) ∧ (s_.2 ≠ gb1154) ∧ (gb1159 ≠ s_.2) ∧ (s_.2 ≠ gb1159) ∧ (Below w.heap.size w w')) ?_ ?_
 rotate_left
 ·intro hCont
  refine two_ (i := 8) (j := 9) (Ni := some 25) (Nj := some 6) #[true, true, true, true, true, true, true, true, true, false, false] #[true, true, true, true, true, true, true, true, false, true, false] rfl rfl rfl rfl (two_of HT_.out (by kernel_rfl)) (by decide) (by decide) (fun K hK => ?_) (fun K hK => ?_)
  ·skip
   refine goes_ Try.func54 (by kernel_rfl) rfl #[.int .i64 a1_0, .slice A1_1 l1_1.length c1_1] (by rfl) rfl rfl (by (try simp only [List.map_toArray, List.map_cons, List.map_nil]); first | done | rfl | (simp only [List.length_drop, List.length_take]; rfl)) ?_
   with_reducible refine (qag.calls k a1_0 _ _ l1_1 t1160 t1161 _ ?side1 ?side2 A4.out).mono ?_
   (case side1 => repeat (first | exact (Kd.qbt HR1_1.out HB.out) | (with_reducible refine Kd.CqA ?_ _) | (with_reducible refine Kd.CqN ?_ _) | (with_reducible refine Kd.CqD ?_)))
   (case side2 => exact HC1_1.out)
   rintro e w17 ⟨v1162, rfl, ho0, hb⟩
   refine ⟨_, rfl, ?_⟩
   have HO1163 := Aq.mk (Kd.qbx (Kd.qbu ho0 (Kd.R_lt (by (with_reducible repeat (first | apply rA | apply rN | apply rD)); exact HO1158.out))) (bQZ (by repeat (with_reducible first | exact HB.out | apply bQA | apply bQN | apply bQ1 | refine bQS ?_ GE1154.out | refine bQS ?_ GE1159.out))))
   replace HO1158 := Aq.mk (Kd.qbm (by (with_reducible repeat (first | apply rA | apply rN | apply rD)); exact HO1158.out) (Kd.qbr ho0) hb)
   replace BK1154 := Aq.mk (kQB (by (with_reducible repeat (first | refine kQN ?_ _ | refine kQD ?_ | refine kQA ?_ _)); exact BK1154.out) hb)
   replace BK1159 := Aq.mk (kQB (by (with_reducible repeat (first | refine kQN ?_ _ | refine kQD ?_ | refine kQA ?_ _)); exact BK1159.out) hb)
   replace HB := Aq.mk (bQT (by repeat (with_reducible first | exact HB.out | apply bQA | apply bQN | apply bQ1 | refine bQS ?_ GE1154.out | refine bQS ?_ GE1159.out)) hb)
   (try clear hb)
   (try clear hb2)
   (try clear hk)
   (try clear hi)
   (try clear ho0)
   refine hK.out _ _ ⟨((HB.out.cell (World.block_lt_of_cell? w _ (AtC.cell0 BK48.out _ rfl : w.cell? g1_0 = some (.int .i64 a1_0)))).trans (AtC.cell0 BK48.out _ rfl : w.cell? g1_0 = some (.int .i64 a1_0))), ((HB.out.cell (World.block_lt_of_cell? w _ (AtC.cell BK48.out 1 _ (by decide) rfl : w.cell? ⟨g1_0.block, g1_0.off + 1, none⟩ = some (.slice A1_1 l1_1.length c1_1)))).trans (AtC.cell BK48.out 1 _ (by decide) rfl : w.cell? ⟨g1_0.block, g1_0.off + 1, none⟩ = some (.slice A1_1 l1_1.length c1_1)))⟩ (fun hHeld => ?_)
   clear hK K
   refine qb0 (a' := ?_) ?_ ?_
   rotate_left
   ·show Act.put _ (some 25) _ = _
    simp only [Act.put, qSa, qSb, qSc, qbl, qbn]
    rfl
   refine one_ (i := 9) (N := some 6) #[true, true, true, true, true, true, true, true, true, true, false] rfl rfl (qb2 HT_.out (by kernel_rfl)) (by decide) (fun K hK => ?_)
   refine box_step ?hg (N := 6) ?hd (cs := #[.int .i64 0, .slice none 0 0]) (t := 26) ?hr ?_; (case hd => rfl); (case hg => rfl); (case hr => first | (go_simp; done) | (go_simp; rfl))
   intro gb1164 hg w18 hbox hb
   replace HO1158 := Aq.mk (Kd.qbk (by (with_reducible repeat (first | apply rA | apply rN | apply rD)); exact HO1158.out) hb)
   replace HO1163 := Aq.mk (Kd.qbk (by (with_reducible repeat (first | apply rA | apply rN | apply rD)); exact HO1163.out) hb)
   have BK1164 := Aq.mk (hbox)
   have GW1164 := Aq.mk ((by rw [hg]; exact (bQZ (by repeat (with_reducible first | exact HB.out | apply bQA | apply bQN | apply bQ1 | refine bQS ?_ GE1154.out | refine bQS ?_ GE1159.out))) : w.heap.size ≤ gb1164))
   have GE1164 := Aq.mk ((by rw [hg]; exact (bQZ (by repeat (with_reducible first | exact HB.out | apply bQA | apply bQN | apply bQ1 | refine bQS ?_ GE1154.out | refine bQS ?_ GE1159.out))) : w.heap.size ≤ gb1164))
   replace HB := Aq.mk (bQT (by repeat (with_reducible first | exact HB.out | apply bQA | apply bQN | apply bQ1 | refine bQS ?_ GE1154.out | refine bQS ?_ GE1159.out)) hb)
   have NB1154_1164 := Aq.mk ((by rw [hg]; exact Nat.ne_of_lt (qbo (g := gb1154) (o := .cells #[.int .i64 0, .slice none 0 0] 26 (0, 0)) (by (with_reducible repeat (first | refine kQN ?_ _ | refine kQD ?_ | refine kQA ?_ _)); exact BK1154.out)) : gb1154 ≠ gb1164))
   have NB1164_1154 := Aq.mk ((by rw [hg]; exact Nat.ne_of_gt (qbo (g := gb1154) (o := .cells #[.int .i64 0, .slice none 0 0] 26 (0, 0)) (by (with_reducible repeat (first | refine kQN ?_ _ | refine kQD ?_ | refine kQA ?_ _)); exact BK1154.out)) : gb1164 ≠ gb1154))
   replace BK1154 := Aq.mk (kQB (by (with_reducible repeat (first | refine kQN ?_ _ | refine kQD ?_ | refine kQA ?_ _)); exact BK1154.out) hb)
   have NB1159_1164 := Aq.mk ((by rw [hg]; exact Nat.ne_of_lt (qbo (g := gb1159) (o := .cells #[.int .i64 t1155, .slice Ao13 t1156.length co13] 26 (0, 0)) (by (with_reducible repeat (first | refine kQN ?_ _ | refine kQD ?_ | refine kQA ?_ _)); exact BK1159.out)) : gb1159 ≠ gb1164))
   have NB1164_1159 := Aq.mk ((by rw [hg]; exact Nat.ne_of_gt (qbo (g := gb1159) (o := .cells #[.int .i64 t1155, .slice Ao13 t1156.length co13] 26 (0, 0)) (by (with_reducible repeat (first | refine kQN ?_ _ | refine kQD ?_ | refine kQA ?_ _)); exact BK1159.out)) : gb1164 ≠ gb1159))
   replace BK1159 := Aq.mk (kQB (by (with_reducible repeat (first | refine kQN ?_ _ | refine kQD ?_ | refine kQA ?_ _)); exact BK1159.out) hb)
   clear hb hbox hg
   refine hK.out _ _ ⟨((HB.out.cell (World.block_lt_of_cell? w _ (AtC.cell0 BK48.out _ rfl : w.cell? g1_0 = some (.int .i64 a1_0)))).trans (AtC.cell0 BK48.out _ rfl : w.cell? g1_0 = some (.int .i64 a1_0))), ((HB.out.cell (World.block_lt_of_cell? w _ (AtC.cell BK48.out 1 _ (by decide) rfl : w.cell? ⟨g1_0.block, g1_0.off + 1, none⟩ = some (.slice A1_1 l1_1.length c1_1)))).trans (AtC.cell BK48.out 1 _ (by decide) rfl : w.cell? ⟨g1_0.block, g1_0.off + 1, none⟩ = some (.slice A1_1 l1_1.length c1_1)))⟩ (fun hHeld => ?_)
   clear hK K
   refine qb0 (a' := ?_) ?_ ?_
   rotate_left
   ·show Act.put _ (some 6) _ = _
    simp only [Act.put, qSa, qSb, qSc, qbl, qbn]
    rfl
   exact qb0 (by simp only [putAll, Act.put, qSa, qSb, qSc]) (hCont (v1162, gb1164) _ ⟨hHeld, (by (with_reducible repeat (first | apply rA | apply rN | apply rD)); exact Kd.qbj HO1158.out (fun _ hk => hk.2)), (by (with_reducible repeat (first | apply rA | apply rN | apply rD)); exact Kd.qbj HO1163.out (fun _ hk => hk.2)), (by (with_reducible repeat (first | refine kQN ?_ _ | refine kQD ?_ | refine kQA ?_ _)); exact BK1154.out), (by (with_reducible repeat (first | refine kQN ?_ _ | refine kQD ?_ | refine kQA ?_ _)); exact BK1159.out), (by (with_reducible repeat (first | refine kQN ?_ _ | refine kQD ?_ | refine kQA ?_ _)); exact BK1164.out), GW1164.out, GE1164.out, NB1154_1164.out, NB1164_1154.out, NB1159_1164.out, NB1164_1159.out, (by repeat (with_reducible first | exact HB.out | apply bQA | apply bQN | apply bQ1 | refine bQS ?_ GE1154.out | refine bQS ?_ GE1159.out | refine bQS ?_ GE1164.out))⟩)
  ·skip
   refine box_step ?hg (N := 6) ?hd (cs := #[.int .i64 0, .slice none 0 0]) (t := 26) ?hr ?_; (case hd => rfl); (case hg => rfl); (case hr => first | (go_simp; done) | (go_simp; rfl))
   intro gb1164 hg w17 hbox hb
   replace HO1158 := Aq.mk (Kd.qbk (by (with_reducible repeat (first | apply rA | apply rN | apply rD)); exact HO1158.out) hb)
   have BK1164 := Aq.mk (hbox)
   have GW1164 := Aq.mk ((by rw [hg]; exact (bQZ (by repeat (with_reducible first | exact HB.out | apply bQA | apply bQN | apply bQ1 | refine bQS ?_ GE1154.out | refine bQS ?_ GE1159.out))) : w.heap.size ≤ gb1164))
   have GE1164 := Aq.mk ((by rw [hg]; exact (bQZ (by repeat (with_reducible first | exact HB.out | apply bQA | apply bQN | apply bQ1 | refine bQS ?_ GE1154.out | refine bQS ?_ GE1159.out))) : w.heap.size ≤ gb1164))
   replace HB := Aq.mk (bQT (by repeat (with_reducible first | exact HB.out | apply bQA | apply bQN | apply bQ1 | refine bQS ?_ GE1154.out | refine bQS ?_ GE1159.out)) hb)
   have NB1154_1164 := Aq.mk ((by rw [hg]; exact Nat.ne_of_lt (qbo (g := gb1154) (o := .cells #[.int .i64 0, .slice none 0 0] 26 (0, 0)) (by (with_reducible repeat (first | refine kQN ?_ _ | refine kQD ?_ | refine kQA ?_ _)); exact BK1154.out)) : gb1154 ≠ gb1164))
   have NB1164_1154 := Aq.mk ((by rw [hg]; exact Nat.ne_of_gt (qbo (g := gb1154) (o := .cells #[.int .i64 0, .slice none 0 0] 26 (0, 0)) (by (with_reducible repeat (first | refine kQN ?_ _ | refine kQD ?_ | refine kQA ?_ _)); exact BK1154.out)) : gb1164 ≠ gb1154))
   replace BK1154 := Aq.mk (kQB (by (with_reducible repeat (first | refine kQN ?_ _ | refine kQD ?_ | refine kQA ?_ _)); exact BK1154.out) hb)
   have NB1159_1164 := Aq.mk ((by rw [hg]; exact Nat.ne_of_lt (qbo (g := gb1159) (o := .cells #[.int .i64 t1155, .slice Ao13 t1156.length co13] 26 (0, 0)) (by (with_reducible repeat (first | refine kQN ?_ _ | refine kQD ?_ | refine kQA ?_ _)); exact BK1159.out)) : gb1159 ≠ gb1164))
   have NB1164_1159 := Aq.mk ((by rw [hg]; exact Nat.ne_of_gt (qbo (g := gb1159) (o := .cells #[.int .i64 t1155, .slice Ao13 t1156.length co13] 26 (0, 0)) (by (with_reducible repeat (first | refine kQN ?_ _ | refine kQD ?_ | refine kQA ?_ _)); exact BK1159.out)) : gb1164 ≠ gb1159))
   replace BK1159 := Aq.mk (kQB (by (with_reducible repeat (first | refine kQN ?_ _ | refine kQD ?_ | refine kQA ?_ _)); exact BK1159.out) hb)
   clear hb hbox hg
   refine hK.out _ _ ⟨((HB.out.cell (World.block_lt_of_cell? w _ (AtC.cell0 BK48.out _ rfl : w.cell? g1_0 = some (.int .i64 a1_0)))).trans (AtC.cell0 BK48.out _ rfl : w.cell? g1_0 = some (.int .i64 a1_0))), ((HB.out.cell (World.block_lt_of_cell? w _ (AtC.cell BK48.out 1 _ (by decide) rfl : w.cell? ⟨g1_0.block, g1_0.off + 1, none⟩ = some (.slice A1_1 l1_1.length c1_1)))).trans (AtC.cell BK48.out 1 _ (by decide) rfl : w.cell? ⟨g1_0.block, g1_0.off + 1, none⟩ = some (.slice A1_1 l1_1.length c1_1)))⟩ (fun hHeld => ?_)
   clear hK K
   refine qb0 (a' := ?_) ?_ ?_
   rotate_left
   ·show Act.put _ (some 6) _ = _
    simp only [Act.put, qSa, qSb, qSc, qbl, qbn]
    rfl
   refine one_ (i := 8) (N := some 25) #[true, true, true, true, true, true, true, true, true, true, false] rfl rfl (qb2 HT_.out (by kernel_rfl)) (by decide) (fun K hK => ?_)
   refine goes_ Try.func54 (by kernel_rfl) rfl #[.int .i64 a1_0, .slice A1_1 l1_1.length c1_1] (by rfl) rfl rfl (by (try simp only [List.map_toArray, List.map_cons, List.map_nil]); first | done | rfl | (simp only [List.length_drop, List.length_take]; rfl)) ?_
   with_reducible refine (qag.calls k a1_0 _ _ l1_1 t1160 t1161 _ ?side1 ?side2 A4.out).mono ?_
   (case side1 => repeat (first | exact (Kd.qbt HR1_1.out HB.out) | (with_reducible refine Kd.CqA ?_ _) | (with_reducible refine Kd.CqN ?_ _) | (with_reducible refine Kd.CqD ?_)))
   (case side2 => exact HC1_1.out)
   rintro e w18 ⟨v1162, rfl, ho0, hb⟩
   refine ⟨_, rfl, ?_⟩
   have HO1163 := Aq.mk (Kd.qbx (Kd.qbu ho0 (Kd.R_lt (by (with_reducible repeat (first | apply rA | apply rN | apply rD)); exact HO1158.out))) (bQZ (by repeat (with_reducible first | exact HB.out | apply bQA | apply bQN | apply bQ1 | refine bQS ?_ GE1154.out | refine bQS ?_ GE1159.out | refine bQS ?_ GE1164.out))))
   replace HO1158 := Aq.mk (Kd.qbm (by (with_reducible repeat (first | apply rA | apply rN | apply rD)); exact HO1158.out) (Kd.qbr ho0) hb)
   replace BK1154 := Aq.mk (kQB (by (with_reducible repeat (first | refine kQN ?_ _ | refine kQD ?_ | refine kQA ?_ _)); exact BK1154.out) hb)
   replace BK1159 := Aq.mk (kQB (by (with_reducible repeat (first | refine kQN ?_ _ | refine kQD ?_ | refine kQA ?_ _)); exact BK1159.out) hb)
   replace BK1164 := Aq.mk (kQB (by (with_reducible repeat (first | refine kQN ?_ _ | refine kQD ?_ | refine kQA ?_ _)); exact BK1164.out) hb)
   replace HB := Aq.mk (bQT (by repeat (with_reducible first | exact HB.out | apply bQA | apply bQN | apply bQ1 | refine bQS ?_ GE1154.out | refine bQS ?_ GE1159.out | refine bQS ?_ GE1164.out)) hb)
   (try clear hb)
   (try clear hb2)
   (try clear hk)
   (try clear hi)
   (try clear ho0)
   refine hK.out _ _ ⟨((HB.out.cell (World.block_lt_of_cell? w _ (AtC.cell0 BK48.out _ rfl : w.cell? g1_0 = some (.int .i64 a1_0)))).trans (AtC.cell0 BK48.out _ rfl : w.cell? g1_0 = some (.int .i64 a1_0))), ((HB.out.cell (World.block_lt_of_cell? w _ (AtC.cell BK48.out 1 _ (by decide) rfl : w.cell? ⟨g1_0.block, g1_0.off + 1, none⟩ = some (.slice A1_1 l1_1.length c1_1)))).trans (AtC.cell BK48.out 1 _ (by decide) rfl : w.cell? ⟨g1_0.block, g1_0.off + 1, none⟩ = some (.slice A1_1 l1_1.length c1_1)))⟩ (fun hHeld => ?_)
   clear hK K
   refine qb0 (a' := ?_) ?_ ?_
   rotate_left
   ·show Act.put _ (some 25) _ = _
    simp only [Act.put, qSa, qSb, qSc, qbl, qbn]
    rfl
   exact qb0 (by simp only [putAll, Act.put, qSa, qSb, qSc]) (hCont (v1162, gb1164) _ ⟨hHeld, (by (with_reducible repeat (first | apply rA | apply rN | apply rD)); exact Kd.qbj HO1158.out (fun _ hk => hk.2)), (by (with_reducible repeat (first | apply rA | apply rN | apply rD)); exact Kd.qbj HO1163.out (fun _ hk => hk.2)), (by (with_reducible repeat (first | refine kQN ?_ _ | refine kQD ?_ | refine kQA ?_ _)); exact BK1154.out), (by (with_reducible repeat (first | refine kQN ?_ _ | refine kQD ?_ | refine kQA ?_ _)); exact BK1159.out), (by (with_reducible repeat (first | refine kQN ?_ _ | refine kQD ?_ | refine kQA ?_ _)); exact BK1164.out), GW1164.out, GE1164.out, NB1154_1164.out, NB1164_1154.out, NB1159_1164.out, NB1164_1159.out, (by repeat (with_reducible first | exact HB.out | apply bQA | apply bQN | apply bQ1 | refine bQS ?_ GE1154.out | refine bQS ?_ GE1159.out | refine bQS ?_ GE1164.out))⟩)
 rintro ⟨v1162, gb1164⟩ w19 ⟨hS_, h0_, h1_, h2_, h3_, h4_, h5_, h6_, h7_, h8_, h9_, h10_, h11_⟩
 have n0_ : Aq (Kd.R (Kd.int .i64) 2 w19 w.heap.size (fun k_ => some k_ ≠ (v1162 : Value).ownBlock) (.slice Ao13 t1156.length co13) t1156) := ⟨h0_⟩
 have n1_ : Aq (Kd.R (Kd.int .i64) 2 w19 w.heap.size (fun k_ => some k_ ≠ (.slice Ao13 t1156.length co13 : Value).ownBlock) v1162 t1161) := ⟨h1_⟩
 have n2_ : Aq (w19.heap[gb1154]? = some (.cells #[.int .i64 0, .slice none 0 0] 26 (0, 0))) := ⟨h2_⟩
 have n3_ : Aq (w19.heap[gb1159]? = some (.cells #[.int .i64 t1155, .slice Ao13 t1156.length co13] 26 (0, 0))) := ⟨h3_⟩
 have n4_ : Aq (w19.heap[gb1164]? = some (.cells #[.int .i64 0, .slice none 0 0] 26 (0, 0))) := ⟨h4_⟩
 have n5_ : Aq (w.heap.size ≤ gb1164) := ⟨h5_⟩
 have n6_ : Aq (w.heap.size ≤ gb1164) := ⟨h6_⟩
 have n7_ : Aq (gb1154 ≠ gb1164) := ⟨h7_⟩
 have n8_ : Aq (gb1164 ≠ gb1154) := ⟨h8_⟩
 have n9_ : Aq (gb1159 ≠ gb1164) := ⟨h9_⟩
 have n10_ : Aq (gb1164 ≠ gb1159) := ⟨h10_⟩
 have n11_ : Aq (Below w.heap.size w w19) := ⟨h11_⟩
 clear HO1158
 clear BK1154
 clear BK1159
 clear HB
 clear h0_ h1_ h2_ h3_ h4_ h5_ h6_ h7_ h8_ h9_ h10_ h11_
 have HO1158 := n0_
 have HO1163 := n1_
 have BK1154 := n2_
 have BK1159 := n3_
 have BK1164 := n4_
 have GW1164 := n5_
 have GE1164 := n6_
 have NB1154_1164 := n7_
 have NB1164_1154 := n8_
 have NB1159_1164 := n9_
 have NB1164_1159 := n10_
 have HB := n11_
 clear n0_ n1_ n2_ n3_ n4_ n5_ n6_ n7_ n8_ n9_ n10_ n11_
 have hHeld : w19.cell? g1_0 = some (.int .i64 a1_0) ∧ w19.cell? ⟨g1_0.block, g1_0.off + 1, none⟩ = some (.slice A1_1 l1_1.length c1_1) := hS_
 obtain ⟨Ao21, co21, eo21⟩ := Kd.qbw HO1163.out
 (first | subst eo21 | (injection eo21 with f1_ f2_ f3_; have f4_ := f1_.symm; have f5_ := f3_.symm; clear f1_ f2_ f3_; subst f4_; subst f5_))
 refine qb0 (a' := ?_) ?_ ?_
 rotate_left
 ·simp only [putAll, Act.put, qSa, qSb, qSc]
  rfl
 refine one_ (i := 10) (N := none) #[true, true, true, true, true, true, true, true, true, true, true] rfl rfl (qb2 HT_.out (by kernel_rfl)) (by decide) (fun K hK => ?_)
 have hs20 : w19.cell? ⟨gb1164, 0, none⟩ = some (.int .i64 0) := (kQC BK1164.out 0).trans rfl
 have hfs20 := kQF BK1164.out 0
 have hns20_0 := NB1154_1164.out
 have hns20_1 := NB1159_1164.out
 have hms20_0 := NB1164_1154.out
 have hms20_1 := NB1164_1159.out
 have hs22 : w19.cell? ⟨gb1164, 1, none⟩ = some (.slice none 0 0) := (kQC BK1164.out 1).trans rfl
 have hfs22 := kQF BK1164.out 1
 have hns22_0 := NB1154_1164.out
 have hns22_1 := NB1159_1164.out
 have hms22_0 := NB1164_1154.out
 have hms22_1 := NB1164_1159.out
 refine skip_ (w1 := ?_) (by rfl) rfl ?_ ?_
 rotate_left
 ·go_simp
  rfl
 refine hK.out _ _ ⟨((cell_far (p := ⟨gb1164, _, none⟩) (by first | exact AtC.ne BK48.out GW1164.out | (rw [add_block]; exact AtC.ne BK48.out GW1164.out) | (show (Addr.add _ _).block ≠ _; rw [add_block]; exact AtC.ne BK48.out GW1164.out) | (dsimp only; exact AtC.ne BK48.out GW1164.out)) _).trans (((cell_far (p := ⟨gb1164, _, none⟩) (by first | exact AtC.ne BK48.out GW1164.out | (rw [add_block]; exact AtC.ne BK48.out GW1164.out) | (show (Addr.add _ _).block ≠ _; rw [add_block]; exact AtC.ne BK48.out GW1164.out) | (dsimp only; exact AtC.ne BK48.out GW1164.out)) _).trans (hHeld.1)))), ((cell_far (p := ⟨gb1164, _, none⟩) (by first | exact AtC.ne BK48.out GW1164.out | (rw [add_block]; exact AtC.ne BK48.out GW1164.out) | (show (Addr.add _ _).block ≠ _; rw [add_block]; exact AtC.ne BK48.out GW1164.out) | (dsimp only; exact AtC.ne BK48.out GW1164.out)) _).trans (((cell_far (p := ⟨gb1164, _, none⟩) (by first | exact AtC.ne BK48.out GW1164.out | (rw [add_block]; exact AtC.ne BK48.out GW1164.out) | (show (Addr.add _ _).block ≠ _; rw [add_block]; exact AtC.ne BK48.out GW1164.out) | (dsimp only; exact AtC.ne BK48.out GW1164.out)) _).trans (hHeld.2))))⟩ (fun hHeld => ?_)
 clear hK K
 refine done_ (done_of HT_.out (by kernel_rfl)) ?_
 try go_wp2_with (first | ((with_reducible refine gQc (f := 79) rfl ?_); refine qbz (some 26) rfl rfl Try.func79 (by kernel_rfl) rfl #[.pointer (some ⟨gb1159, 0, none⟩), .pointer (some ⟨gb1164, 0, none⟩)] rfl (by (try simp only [List.map_toArray, List.map_cons, List.map_nil]); first | done | rfl | (simp only [List.length_drop, List.length_take]; rfl)) ?_; (with_reducible refine (qa6.calls k (⟨gb1159, 0, none⟩ : Addr) t1155 Ao13 co13 t1156 (⟨gb1164, 0, none⟩ : Addr) t1160 Ao21 co21 t1161 t1165 t1166 _ ?side1 ?side2 ?side3 ?side4 ?side5 ?side6 A5.out).mono ?_); (case side1 => refine (Kd.qbi (e := 2) (base := w.heap.size) (ok := fun k_ => some k_ ≠ (.slice Ao21 t1161.length co21 : Value).ownBlock) (n := t1156.length) (c := co13) ?_).2.2; exact (by (with_reducible repeat (first | apply rA | apply rN | apply rD)); exact (Kd.qbj (Kd.qbs (p := ⟨gb1164, 1, none⟩) (Kd.qbs (p := ⟨gb1164, 0, none⟩) (Kd.qbq HO1158.out BK1164.out (by decide)) (fun _ hk => hk.2) (.int .i64 t1160)) (fun _ hk => hk.2) (.slice Ao21 t1161.length co21)) (fun _ h_ => h_.1)))); (case side2 => exact (Kd.qbi HO1158.out).2.1); (case side3 => refine (Kd.qbi (e := 2) (base := w.heap.size) (ok := fun k_ => some k_ ≠ (.slice Ao13 t1156.length co13 : Value).ownBlock) (n := t1161.length) (c := co21) ?_).2.2; exact (by (with_reducible repeat (first | apply rA | apply rN | apply rD)); exact (Kd.qbj (Kd.qbs (p := ⟨gb1164, 1, none⟩) (Kd.qbs (p := ⟨gb1164, 0, none⟩) (Kd.qbq HO1163.out BK1164.out (by decide)) (fun _ hk => hk.2) (.int .i64 t1160)) (fun _ hk => hk.2) (.slice Ao21 t1161.length co21)) (fun _ h_ => h_.1)))); (case side4 => exact (Kd.qbi HO1163.out).2.1); (case side5 => exact AtC.of_blk (g := gb1159) (t := 26) (cs := #[.int .i64 t1155, .slice Ao13 t1156.length co13]) (by (with_reducible repeat (first | refine kQN ?_ _ | refine kQD ?_ | refine kQA ?_ _)); refine kQR ?_ NB1159_1164.out _; (with_reducible repeat (first | refine kQN ?_ _ | refine kQD ?_ | refine kQA ?_ _)); refine kQR ?_ NB1159_1164.out _; (with_reducible repeat (first | refine kQN ?_ _ | refine kQD ?_ | refine kQA ?_ _)); exact BK1159.out) rfl); (case side6 => exact AtC.of_blk (g := gb1164) (t := 26) (cs := #[.int .i64 t1160, .slice Ao21 t1161.length co21]) (by (with_reducible repeat (first | refine kQN ?_ _ | refine kQD ?_ | refine kQA ?_ _)); refine kQP (cs := #[.int .i64 t1160, .slice none 0 0]) ?_ 1 _ rfl; (with_reducible repeat (first | refine kQN ?_ _ | refine kQD ?_ | refine kQA ?_ _)); refine kQP (cs := #[.int .i64 0, .slice none 0 0]) ?_ 0 _ rfl; (with_reducible repeat (first | refine kQN ?_ _ | refine kQD ?_ | refine kQA ?_ _)); exact BK1164.out) rfl); rintro e w23 ⟨v1167, rfl, ho0, hb⟩; refine ⟨_, rfl, ?_⟩; have HO1168 := Aq.mk (Kd.qbx (Kd.qbu (Kd.qbu ho0 (Kd.R_lt (by (with_reducible repeat (first | apply rA | apply rN | apply rD)); exact (Kd.qbj (Kd.qbs (p := ⟨gb1164, 1, none⟩) (Kd.qbs (p := ⟨gb1164, 0, none⟩) (Kd.qbq HO1158.out BK1164.out (by decide)) (fun _ hk => hk.2) (.int .i64 t1160)) (fun _ hk => hk.2) (.slice Ao21 t1161.length co21)) (fun _ h_ => h_.1))))) (Kd.R_lt (by (with_reducible repeat (first | apply rA | apply rN | apply rD)); exact (Kd.qbj (Kd.qbs (p := ⟨gb1164, 1, none⟩) (Kd.qbs (p := ⟨gb1164, 0, none⟩) (Kd.qbq HO1163.out BK1164.out (by decide)) (fun _ hk => hk.2) (.int .i64 t1160)) (fun _ hk => hk.2) (.slice Ao21 t1161.length co21)) (fun _ h_ => h_.1))))) (bQZ (by repeat (with_reducible first | exact HB.out | apply bQA | apply bQN | apply bQ1 | refine bQS ?_ GE1154.out | refine bQS ?_ GE1159.out | refine bQS ?_ GE1164.out)))); replace HO1158 := Aq.mk (Kd.qbm (by (with_reducible repeat (first | apply rA | apply rN | apply rD)); exact (Kd.qbj (Kd.qbs (p := ⟨gb1164, 1, none⟩) (Kd.qbs (p := ⟨gb1164, 0, none⟩) (Kd.qbq HO1158.out BK1164.out (by decide)) (fun _ hk => hk.2) (.int .i64 t1160)) (fun _ hk => hk.2) (.slice Ao21 t1161.length co21)) (fun _ h_ => h_.1))) (Kd.qbr ho0) hb); replace HO1163 := Aq.mk (Kd.qbm (by (with_reducible repeat (first | apply rA | apply rN | apply rD)); exact (Kd.qbj (Kd.qbs (p := ⟨gb1164, 1, none⟩) (Kd.qbs (p := ⟨gb1164, 0, none⟩) (Kd.qbq HO1163.out BK1164.out (by decide)) (fun _ hk => hk.2) (.int .i64 t1160)) (fun _ hk => hk.2) (.slice Ao21 t1161.length co21)) (fun _ h_ => h_.1))) (Kd.qbr ho0) hb); replace BK1154 := Aq.mk (kQB (g := gb1154) (o := .cells #[.int .i64 0, .slice none 0 0] 26 (0, 0)) (by (with_reducible repeat (first | refine kQN ?_ _ | refine kQD ?_ | refine kQA ?_ _)); refine kQR ?_ NB1154_1164.out _; (with_reducible repeat (first | refine kQN ?_ _ | refine kQD ?_ | refine kQA ?_ _)); refine kQR ?_ NB1154_1164.out _; (with_reducible repeat (first | refine kQN ?_ _ | refine kQD ?_ | refine kQA ?_ _)); exact BK1154.out) hb); replace BK1159 := Aq.mk (kQB (g := gb1159) (o := .cells #[.int .i64 t1155, .slice Ao13 t1156.length co13] 26 (0, 0)) (by (with_reducible repeat (first | refine kQN ?_ _ | refine kQD ?_ | refine kQA ?_ _)); refine kQR ?_ NB1159_1164.out _; (with_reducible repeat (first | refine kQN ?_ _ | refine kQD ?_ | refine kQA ?_ _)); refine kQR ?_ NB1159_1164.out _; (with_reducible repeat (first | refine kQN ?_ _ | refine kQD ?_ | refine kQA ?_ _)); exact BK1159.out) hb); replace BK1164 := Aq.mk (kQB (g := gb1164) (o := .cells #[.int .i64 t1160, .slice Ao21 t1161.length co21] 26 (0, 0)) (by (with_reducible repeat (first | refine kQN ?_ _ | refine kQD ?_ | refine kQA ?_ _)); refine kQP (cs := #[.int .i64 t1160, .slice none 0 0]) ?_ 1 _ rfl; (with_reducible repeat (first | refine kQN ?_ _ | refine kQD ?_ | refine kQA ?_ _)); refine kQP (cs := #[.int .i64 0, .slice none 0 0]) ?_ 0 _ rfl; (with_reducible repeat (first | refine kQN ?_ _ | refine kQD ?_ | refine kQA ?_ _)); exact BK1164.out) hb); replace HB := Aq.mk (bQT (by repeat (with_reducible first | exact HB.out | apply bQA | apply bQN | apply bQ1 | refine bQS ?_ GE1154.out | refine bQS ?_ GE1159.out | refine bQS ?_ GE1164.out)) hb); (try clear hb); (try clear hb2); (try clear hk); (try clear hi); (try clear ho0)) | ((with_reducible refine gQd (N := 7) rfl ?_); refine xQe ?hg (N := 7) ?hd (cs := #[.int .i64 0, .slice none 0 0]) (t := 26) ?hr ?_; (case hd => rfl); (case hg => rfl); (case hr => first | (go_simp; done) | (go_simp; rfl)); intro gb1169 hg w24 hbox hb; replace HO1158 := Aq.mk (Kd.qbk (by (with_reducible repeat (first | apply rA | apply rN | apply rD)); exact HO1158.out) hb); replace HO1163 := Aq.mk (Kd.qbk (by (with_reducible repeat (first | apply rA | apply rN | apply rD)); exact HO1163.out) hb); replace HO1168 := Aq.mk (Kd.qbk (by (with_reducible repeat (first | apply rA | apply rN | apply rD)); exact HO1168.out) hb); have BK1169 := Aq.mk (hbox); have GW1169 := Aq.mk ((by rw [hg]; exact (bQZ (by repeat (with_reducible first | exact HB.out | apply bQA | apply bQN | apply bQ1 | refine bQS ?_ GE1154.out | refine bQS ?_ GE1159.out | refine bQS ?_ GE1164.out))) : w.heap.size ≤ gb1169)); have GE1169 := Aq.mk ((by rw [hg]; exact (bQZ (by repeat (with_reducible first | exact HB.out | apply bQA | apply bQN | apply bQ1 | refine bQS ?_ GE1154.out | refine bQS ?_ GE1159.out | refine bQS ?_ GE1164.out))) : w.heap.size ≤ gb1169)); replace HB := Aq.mk (bQT (by repeat (with_reducible first | exact HB.out | apply bQA | apply bQN | apply bQ1 | refine bQS ?_ GE1154.out | refine bQS ?_ GE1159.out | refine bQS ?_ GE1164.out)) hb); have NB1154_1169 := Aq.mk ((by rw [hg]; exact Nat.ne_of_lt (qbo (g := gb1154) (o := .cells #[.int .i64 0, .slice none 0 0] 26 (0, 0)) (by (with_reducible repeat (first | refine kQN ?_ _ | refine kQD ?_ | refine kQA ?_ _)); exact BK1154.out)) : gb1154 ≠ gb1169)); have NB1169_1154 := Aq.mk ((by rw [hg]; exact Nat.ne_of_gt (qbo (g := gb1154) (o := .cells #[.int .i64 0, .slice none 0 0] 26 (0, 0)) (by (with_reducible repeat (first | refine kQN ?_ _ | refine kQD ?_ | refine kQA ?_ _)); exact BK1154.out)) : gb1169 ≠ gb1154)); replace BK1154 := Aq.mk (kQB (g := gb1154) (o := .cells #[.int .i64 0, .slice none 0 0] 26 (0, 0)) (by (with_reducible repeat (first | refine kQN ?_ _ | refine kQD ?_ | refine kQA ?_ _)); exact BK1154.out) hb); have NB1159_1169 := Aq.mk ((by rw [hg]; exact Nat.ne_of_lt (qbo (g := gb1159) (o := .cells #[.int .i64 t1155, .slice Ao13 t1156.length co13] 26 (0, 0)) (by (with_reducible repeat (first | refine kQN ?_ _ | refine kQD ?_ | refine kQA ?_ _)); exact BK1159.out)) : gb1159 ≠ gb1169)); have NB1169_1159 := Aq.mk ((by rw [hg]; exact Nat.ne_of_gt (qbo (g := gb1159) (o := .cells #[.int .i64 t1155, .slice Ao13 t1156.length co13] 26 (0, 0)) (by (with_reducible repeat (first | refine kQN ?_ _ | refine kQD ?_ | refine kQA ?_ _)); exact BK1159.out)) : gb1169 ≠ gb1159)); replace BK1159 := Aq.mk (kQB (g := gb1159) (o := .cells #[.int .i64 t1155, .slice Ao13 t1156.length co13] 26 (0, 0)) (by (with_reducible repeat (first | refine kQN ?_ _ | refine kQD ?_ | refine kQA ?_ _)); exact BK1159.out) hb); have NB1164_1169 := Aq.mk ((by rw [hg]; exact Nat.ne_of_lt (qbo (g := gb1164) (o := .cells #[.int .i64 t1160, .slice Ao21 t1161.length co21] 26 (0, 0)) (by (with_reducible repeat (first | refine kQN ?_ _ | refine kQD ?_ | refine kQA ?_ _)); exact BK1164.out)) : gb1164 ≠ gb1169)); have NB1169_1164 := Aq.mk ((by rw [hg]; exact Nat.ne_of_gt (qbo (g := gb1164) (o := .cells #[.int .i64 t1160, .slice Ao21 t1161.length co21] 26 (0, 0)) (by (with_reducible repeat (first | refine kQN ?_ _ | refine kQD ?_ | refine kQA ?_ _)); exact BK1164.out)) : gb1169 ≠ gb1164)); replace BK1164 := Aq.mk (kQB (g := gb1164) (o := .cells #[.int .i64 t1160, .slice Ao21 t1161.length co21] 26 (0, 0)) (by (with_reducible repeat (first | refine kQN ?_ _ | refine kQD ?_ | refine kQA ?_ _)); exact BK1164.out) hb); clear hb hbox hg; have hnb25 := NB1169_1154.out; have hnc25 := NB1154_1169.out; have hnb26 := NB1169_1159.out; have hnc26 := NB1159_1169.out; have hnb27 := NB1169_1164.out; have hnc27 := NB1164_1169.out; have hcz28_0 : w24.cell? ⟨gb1169, 0, none⟩ = some (.int .i64 0) := (kQC BK1169.out 0).trans rfl; have hcz28_1 : w24.cell? ⟨gb1169, 1, none⟩ = some (.slice none 0 0) := (kQC BK1169.out 1).trans rfl; have hfz28_0 := kQF BK1169.out 0; have hfz28_1 := kQF BK1169.out 1; obtain ⟨Ao29, co29, eo29⟩ := Kd.qbw HO1168.out; subst eo29) | ((with_reducible refine gQc (f := 54) rfl ?_); refine qbz (some 31) rfl rfl Try.func54 (by kernel_rfl) rfl #[.int .i64 t1165, .slice Ao29 t1166.length co29] rfl (by (try simp only [List.map_toArray, List.map_cons, List.map_nil]); first | done | rfl | (simp only [List.length_drop, List.length_take]; rfl)) ?_; (with_reducible refine (qag.calls k t1165 _ _ t1166 t1170 t1171 _ ?side1 ?side2 A6.out).mono ?_); (case side1 => refine (Kd.qbi (e := 2) (base := w.heap.size) (ok := fun k_ => ((True ∧ some k_ ≠ (.slice Ao13 t1156.length co13 : Value).ownBlock) ∧ some k_ ≠ (.slice Ao21 t1161.length co21 : Value).ownBlock)) (n := t1166.length) (c := co29) ?_).2.2; exact (by (with_reducible repeat (first | apply rA | apply rN | apply rD)); exact (Kd.qbj (Kd.qbs (p := ⟨gb1169, 1, none⟩) (Kd.qbs (p := ⟨gb1169, 0, none⟩) (Kd.qbq HO1168.out BK1169.out (by decide)) (fun _ hk => hk.2) (.int .i64 t1165)) (fun _ hk => hk.2) (.slice Ao29 t1166.length co29)) (fun _ h_ => h_.1)))); (case side2 => exact (Kd.qbi HO1168.out).2.1); rintro e w30 ⟨v1172, rfl, ho0, hb⟩; refine ⟨_, rfl, ?_⟩; have HO1173 := Aq.mk (Kd.qbx (Kd.qbu (Kd.qbu (Kd.qbu ho0 (Kd.R_lt (by (with_reducible repeat (first | apply rA | apply rN | apply rD)); exact (Kd.qbj (Kd.qbs (p := ⟨gb1169, 1, none⟩) (Kd.qbs (p := ⟨gb1169, 0, none⟩) (Kd.qbq HO1158.out BK1169.out (by decide)) (fun _ hk => hk.2) (.int .i64 t1165)) (fun _ hk => hk.2) (.slice Ao29 t1166.length co29)) (fun _ h_ => h_.1))))) (Kd.R_lt (by (with_reducible repeat (first | apply rA | apply rN | apply rD)); exact (Kd.qbj (Kd.qbs (p := ⟨gb1169, 1, none⟩) (Kd.qbs (p := ⟨gb1169, 0, none⟩) (Kd.qbq HO1163.out BK1169.out (by decide)) (fun _ hk => hk.2) (.int .i64 t1165)) (fun _ hk => hk.2) (.slice Ao29 t1166.length co29)) (fun _ h_ => h_.1))))) (Kd.R_lt (by (with_reducible repeat (first | apply rA | apply rN | apply rD)); exact (Kd.qbj (Kd.qbs (p := ⟨gb1169, 1, none⟩) (Kd.qbs (p := ⟨gb1169, 0, none⟩) (Kd.qbq HO1168.out BK1169.out (by decide)) (fun _ hk => hk.2) (.int .i64 t1165)) (fun _ hk => hk.2) (.slice Ao29 t1166.length co29)) (fun _ h_ => h_.1))))) (bQZ (by repeat (with_reducible first | exact HB.out | apply bQA | apply bQN | apply bQ1 | refine bQS ?_ GE1154.out | refine bQS ?_ GE1159.out | refine bQS ?_ GE1164.out | refine bQS ?_ GE1169.out)))); replace HO1158 := Aq.mk (Kd.qbm (by (with_reducible repeat (first | apply rA | apply rN | apply rD)); exact (Kd.qbj (Kd.qbs (p := ⟨gb1169, 1, none⟩) (Kd.qbs (p := ⟨gb1169, 0, none⟩) (Kd.qbq HO1158.out BK1169.out (by decide)) (fun _ hk => hk.2) (.int .i64 t1165)) (fun _ hk => hk.2) (.slice Ao29 t1166.length co29)) (fun _ h_ => h_.1))) (Kd.qbr ho0) hb); replace HO1163 := Aq.mk (Kd.qbm (by (with_reducible repeat (first | apply rA | apply rN | apply rD)); exact (Kd.qbj (Kd.qbs (p := ⟨gb1169, 1, none⟩) (Kd.qbs (p := ⟨gb1169, 0, none⟩) (Kd.qbq HO1163.out BK1169.out (by decide)) (fun _ hk => hk.2) (.int .i64 t1165)) (fun _ hk => hk.2) (.slice Ao29 t1166.length co29)) (fun _ h_ => h_.1))) (Kd.qbr ho0) hb); replace HO1168 := Aq.mk (Kd.qbm (by (with_reducible repeat (first | apply rA | apply rN | apply rD)); exact (Kd.qbj (Kd.qbs (p := ⟨gb1169, 1, none⟩) (Kd.qbs (p := ⟨gb1169, 0, none⟩) (Kd.qbq HO1168.out BK1169.out (by decide)) (fun _ hk => hk.2) (.int .i64 t1165)) (fun _ hk => hk.2) (.slice Ao29 t1166.length co29)) (fun _ h_ => h_.1))) (Kd.qbr ho0) hb); replace BK1154 := Aq.mk (kQB (g := gb1154) (o := .cells #[.int .i64 0, .slice none 0 0] 26 (0, 0)) (by (with_reducible repeat (first | refine kQN ?_ _ | refine kQD ?_ | refine kQA ?_ _)); refine kQR ?_ NB1154_1169.out _; (with_reducible repeat (first | refine kQN ?_ _ | refine kQD ?_ | refine kQA ?_ _)); refine kQR ?_ NB1154_1169.out _; (with_reducible repeat (first | refine kQN ?_ _ | refine kQD ?_ | refine kQA ?_ _)); exact BK1154.out) hb); replace BK1159 := Aq.mk (kQB (g := gb1159) (o := .cells #[.int .i64 t1155, .slice Ao13 t1156.length co13] 26 (0, 0)) (by (with_reducible repeat (first | refine kQN ?_ _ | refine kQD ?_ | refine kQA ?_ _)); refine kQR ?_ NB1159_1169.out _; (with_reducible repeat (first | refine kQN ?_ _ | refine kQD ?_ | refine kQA ?_ _)); refine kQR ?_ NB1159_1169.out _; (with_reducible repeat (first | refine kQN ?_ _ | refine kQD ?_ | refine kQA ?_ _)); exact BK1159.out) hb); replace BK1164 := Aq.mk (kQB (g := gb1164) (o := .cells #[.int .i64 t1160, .slice Ao21 t1161.length co21] 26 (0, 0)) (by (with_reducible repeat (first | refine kQN ?_ _ | refine kQD ?_ | refine kQA ?_ _)); refine kQR ?_ NB1164_1169.out _; (with_reducible repeat (first | refine kQN ?_ _ | refine kQD ?_ | refine kQA ?_ _)); refine kQR ?_ NB1164_1169.out _; (with_reducible repeat (first | refine kQN ?_ _ | refine kQD ?_ | refine kQA ?_ _)); exact BK1164.out) hb); replace BK1169 := Aq.mk (kQB (g := gb1169) (o := .cells #[.int .i64 t1165, .slice Ao29 t1166.length co29] 26 (0, 0)) (by (with_reducible repeat (first | refine kQN ?_ _ | refine kQD ?_ | refine kQA ?_ _)); refine kQP (cs := #[.int .i64 t1165, .slice none 0 0]) ?_ 1 _ rfl; (with_reducible repeat (first | refine kQN ?_ _ | refine kQD ?_ | refine kQA ?_ _)); refine kQP (cs := #[.int .i64 0, .slice none 0 0]) ?_ 0 _ rfl; (with_reducible repeat (first | refine kQN ?_ _ | refine kQD ?_ | refine kQA ?_ _)); exact BK1169.out) hb); replace HB := Aq.mk (bQT (by repeat (with_reducible first | exact HB.out | apply bQA | apply bQN | apply bQ1 | refine bQS ?_ GE1154.out | refine bQS ?_ GE1159.out | refine bQS ?_ GE1164.out | refine bQS ?_ GE1169.out)) hb); (try clear hb); (try clear hb2); (try clear hk); (try clear hi); (try clear ho0); have hnb31 := NB1154_1159.out; have hnc31 := NB1159_1154.out; have hnb32 := NB1154_1164.out; have hnc32 := NB1164_1154.out; have hcz33_0 : w30.cell? ⟨gb1154, 0, none⟩ = some (.int .i64 0) := (kQC BK1154.out 0).trans rfl; have hcz33_1 : w30.cell? ⟨gb1154, 1, none⟩ = some (.slice none 0 0) := (kQC BK1154.out 1).trans rfl; have hfz33_0 := kQF BK1154.out 0; have hfz33_1 := kQF BK1154.out 1; obtain ⟨Ao34, co34, eo34⟩ := Kd.qbw HO1173.out; subst eo34))
 refine bodyPost_ret (results_cell_row rfl _ _ gb1154 26 #[.int .i64 t1170, .slice Ao34 t1171.length co34] (0, 0) _ rfl (by (with_reducible repeat (first | refine kQN ?_ _ | refine kQD ?_ | refine kQA ?_ _)); refine kQP (cs := #[.int .i64 t1170, .slice none 0 0]) ?_ 1 _ rfl; (with_reducible repeat (first | refine kQN ?_ _ | refine kQD ?_ | refine kQA ?_ _)); refine kQP (cs := #[.int .i64 0, .slice none 0 0]) ?_ 0 _ rfl; (with_reducible repeat (first | refine kQN ?_ _ | refine kQD ?_ | refine kQA ?_ _)); exact BK1154.out) Try.underlying26 rfl (by kernel_rfl)) rfl ?_
 exact ⟨_, by first | rfl | (simp [errW_none, errW_some] <;> rfl) | (simp [*, errW_none, errW_some] <;> rfl), by (with_reducible repeat (first | apply rA | apply rN | apply rD)); exact Kd.qbj (Kd.qbs (p := ⟨gb1154, 1, none⟩) (Kd.qbs (p := ⟨gb1154, 0, none⟩) (Kd.qbq HO1173.out BK1154.out (by decide)) (fun _ hk => hk.2) (.int .i64 t1170)) (fun _ hk => hk.2) (.slice Ao34 t1171.length co34)) (fun _ hk => trivial), by repeat (first | (with_reducible first | exact HB.out | apply bQA | apply bQN | apply bQ1 | refine bQS ?_ GE1154.out | refine bQS ?_ GE1159.out | refine bQS ?_ GE1164.out | refine bQS ?_ GE1169.out) | exact HB.out)⟩
end Go.Proofs.Ytbaicdgkpnbipaa.P
