/- Functions of the program and what they tell, as the printing program wrote it. -/
import Derived.Test.YtngiionckbmkmaaPx0
import Derived.Test.YtngiionckbmkmaaPx13
import Derived.Test.YtngiionckbmkmaaPx23
namespace Go.Proofs.Ytngiionckbmkmaa.P
open Go.Shelf Go.RowKit Go.Proofs.YtngiionckbmkmaaW.PrintWords Go.Proofs.YtngiionckbmkmaaW.PrintLast Go.Proofs.YtngiionckbmkmaaW.PrintMore
attribute [local go_sem] max2_int min2_int max_two min_two max_three min_three max_four min_four
set_option linter.unusedVariables false
set_option linter.unusedSimpArgs false
def spec_l05Value.l0 : Nat → List Int → Int → Int → Int → Int → Int → Option (Int)
  | 0, _, _, _, _, _, _ => none
  | k + 1, x1, x2, x7, x8, x1195000, x1195001 => if x8 < (x1.length : Int) then (if 0 ≤ x8 then ((spec_l01Square.f k x1195000 x1195001 x2 x8).bind fun t1196 => ((spec_l01Mul.f k x1195000 x1195001 (rd x1 x8) t1196).bind fun t1197 => (spec_l05Value.l0 k x1 x2 (Go.bits .xor .i64 x7 t1197) (wrap64 (x8 + 1)) x1195000 x1195001))) else (none)) else (some x7)
def spec_l05Value.f (k : Nat) (a0_0 : Int) (a0_1 : Int) (l1 : List Int) (a2 : Int) : Option (Int) := spec_l05Value.l0 k l1 a2 0 0 a0_0 a0_1
theorem spec_l05Value.mono_l : ∀ k, (∀ y0 y1 y2 y3 y4 y5, LeO (spec_l05Value.l0 k y0 y1 y2 y3 y4 y5) (spec_l05Value.l0 (k + 1) y0 y1 y2 y3 y4 y5))
 | 0 => fun _ _ _ _ _ _ r h => by simp [spec_l05Value.l0] at h
 | k + 1 => by
  have ih0 := spec_l05Value.mono_l k
  ·intro y0 y1 y2 y3 y4 y5
   unfold spec_l05Value.l0
   repeat' first
   | (with_reducible first | exact ih0 _ _ _ _ _ _ | exact spec_l01Mul.mono _ _ _ _ _ | exact spec_l01Square.mono _ _ _ _ _ | exact LeO.refl _ | exact LeO.none _ | refine LeO.ite ?_ ?_ | refine LeO.bind ?_ (fun _ => ?_))
   | exact LeO.none _
   | refine LeO.ite ?_ ?_
   | refine LeO.bind ?_ (fun _ => ?_)
theorem spec_l05Value.mono : ∀ a0 a1 a2 a3 k, LeO (spec_l05Value.f k a0 a1 a2 a3) (spec_l05Value.f (k + 1) a0 a1 a2 a3) := by
 intro a0 a1 a2 a3 k
 have ih0 := spec_l05Value.mono_l k
 unfold spec_l05Value.f
 repeat' first
  | (with_reducible first | exact ih0 _ _ _ _ _ _ | exact spec_l01Mul.mono _ _ _ _ _ | exact spec_l01Square.mono _ _ _ _ _ | exact LeO.refl _ | exact LeO.none _ | refine LeO.ite ?_ ?_ | refine LeO.bind ?_ (fun _ => ?_))
  | exact LeO.none _
  | refine LeO.ite ?_ ?_
  | refine LeO.bind ?_ (fun _ => ?_)
def spec_l05Value.T5 : Bool × List (List Nat × List Nat) := (true, [([], []), ([], []), ([], []), ([], []), ([2, 3], [2, 3]), ([4], [4]), ([], []), ([], []), ([], []), ([6, 7, 8], [6, 7, 8]), ([1, 5, 9, 9], [1, 5, 9]), ([0, 10], [0, 10]), ([11, 10, 0, 1, 2, 3, 4, 5, 6, 7, 8, 9, 10, 11], [0, 11])])
def spec_l05Value.B5 : List Nat := [0, 0, 0, 0, 12, 28, 0, 0, 0, 448, 1022, 2047, 4095]
theorem spec_l05Value.tab5 : rtab .any (opsOf Try.f130 5) = spec_l05Value.T5 := by kernel_rfl
theorem spec_l05Value.bits5 : waitsOk spec_l05Value.T5.2 spec_l05Value.B5 = true := by kernel_rfl
set_option maxHeartbeats 8000000 in
set_option maxRecDepth 100000 in
theorem spec_l05Value.calls (k : Nat) (a0_0 : Int) (a0_1 : Int) (A1 : Option Addr) (c1 : Nat) (l1 : List Int) (a2 : Int) (r : Int) (w : World) (hr1 : Kd.C (Kd.int .i64) w A1 l1.length l1) (hc1 : l1.length ≤ c1) (h : spec_l05Value.f k a0_0 a0_1 l1 a2 = some r) :
 Calls Try.prog 130 #[.agg #[.int .i64 a0_0, .int .i64 a0_1], .slice A1 l1.length c1, .int .i64 a2] w fun e w' => e = .returned (.int .i64 r) ∧ Below w.heap.size w w' := by
 have hu29 := Try.underlying29
 have HR1 := Aq.mk hr1
 have HC1 := Aq.mk hc1
 clear hr1 hc1
 have HB := Aq.mk (Below.refl w.heap.size w)
 have H : (spec_l05Value.l0 k l1 a2 0 0 a0_0 a0_1) = some r := h
 clear h
 have H' := Aq.mk H
 clear H
 go_enter Try.func130, Try.ntmps130
 go_wp2_with (first | ((with_reducible refine gQd (N := 3) rfl ?_); refine xQe ?hg (N := 3) ?hd (cs := #[.int .i64 a0_0, .int .i64 a0_1]) (t := 29) ?hr ?_; (case hd => rfl); (case hg => rfl); (case hr => first | (go_simp; done) | (go_simp; rfl)); intro gb1194 hg w4 hbox hb; have n0_ := Aq.mk (bQT (by repeat (first | (with_reducible first | exact HB.out | apply bQA | apply bQN | apply bQ1) | exact HB.out)) hb); have n1_ := Aq.mk (hbox); have n2_ := Aq.mk ((by rw [hg]; exact (bQZ (by repeat (first | (with_reducible first | exact HB.out | apply bQA | apply bQN | apply bQ1) | exact HB.out))) : w.heap.size ≤ gb1194)); have n3_ := Aq.mk ((by rw [hg]; exact (bQZ (by repeat (first | (with_reducible first | exact HB.out | apply bQA | apply bQN | apply bQ1) | exact HB.out))) : w.heap.size ≤ gb1194)); clear HB; have HB := n0_; have BK1194 := n1_; have GW1194 := n2_; have GE1194 := n3_; clear n0_ n1_ n2_ n3_; clear hb hbox hg))
 go_loopg [7, 8] k (fun kq v7 v8 w' => ∃ (x7_1 : Int) (x8_1 : Int), v7 = .int .i64 x7_1 ∧ v8 = .int .i64 x8_1 ∧ Aq (spec_l05Value.l0 kq l1 a2 x7_1 x8_1 a0_0 a0_1 = some r) ∧ Aq (kq ≤ k) ∧ Aq (w'.heap[gb1194]? = some (.cells #[.int .i64 a0_0, .int .i64 a0_1] 29 (0, 0))) ∧ Aq (Below w.heap.size w w'))
 case atStart => exact ⟨(0), (0), (by first | rfl | (simp; done) | (simp [*]; done)), (by first | rfl | (simp; done) | (simp [*]; done)), H', ⟨Nat.le_refl _⟩, ⟨by (with_reducible repeat (first | refine kQN ?_ _ | refine kQD ?_ | refine kQA ?_ _)); exact BK1194.out⟩, ⟨by repeat (first | (with_reducible first | exact HB.out | apply bQA | apply bQN | apply bQ1 | refine bQS ?_ GE1194.out) | exact HB.out)⟩⟩
 case round =>
  clear H'
  try clear c1
  try clear p2
  obtain ⟨x7_1, x8_1, rfl, rfl, HA, HK1, BK1194, HB⟩ := hrel
  cases gk with
  | zero => exact absurd HA.out (by simp [spec_l05Value.l0])
  | succ k1 =>
   have H := HA.out
   clear HA
   simp only [spec_l05Value.l0] at H
   by_cases c5 : x8_1 < (l1.length : Int)
   ·rw [if_pos c5] at H
    have c5b0 : decide (x8_1 < (l1.length : Int)) = true := decide_eq_true c5
    clear c5
    by_cases c6 : 0 ≤ x8_1
    ·rw [if_pos c6] at H
     have c6b0 : decide (0 ≤ x8_1) = true := decide_eq_true c6
     clear c6
     replace H := Option.bind_eq_some_iff.mp H
     obtain ⟨t1196, A70, H⟩ := H
     replace H : ((spec_l01Mul.f k1 a0_0 a0_1 (rd l1 x8_1) t1196).bind fun t1197 => (spec_l05Value.l0 k1 l1 a2 (Go.bits .xor .i64 x7_1 t1197) (wrap64 (x8_1 + 1)) a0_0 a0_1)) = some r := H
     have A7 := Aq.mk A70
     clear A70
     replace H := Option.bind_eq_some_iff.mp H
     obtain ⟨t1197, A80, H⟩ := H
     replace H : (spec_l05Value.l0 k1 l1 a2 (Go.bits .xor .i64 x7_1 t1197) (wrap64 (x8_1 + 1)) a0_0 a0_1) = some r := H
     have A8 := Aq.mk A80
     clear A80
     have H' := Aq.mk H
     clear H
     try go_wp2
     have n0_ := Aq.mk (kQD BK1194.out)
     have n1_ := Aq.mk (bQ1 HB.out)
     clear BK1194
     clear HB
     have BK1194 := n0_
     have HB := n1_
     clear n0_ n1_
     have p1195 : 0 ≤ (x8_1 : Int) := of_decide_eq_true (by first | (with_reducible assumption) | assumption)
     have q1195 : x8_1 < (l1.length : Int) := of_decide_eq_true (by first | (with_reducible assumption) | assumption)
     obtain ⟨ad1195, e1195, hx1195_0⟩ := Kd.at_int HR1.out x8_1 p1195 q1195
     have hw1195_0 := hx1195_0
     cases e1195
     replace hx1195_0 := (HB.out.cell (World.block_lt_of_cell? w _ hx1195_0)).trans hx1195_0
     replace p1195 := eq_true p1195
     replace q1195 := eq_true q1195
     refine start_ (n := 13) (S := fun w' => w'.cell? ⟨gb1194, 0, none⟩ = some (.int .i64 a0_0) ∧ w'.cell? ⟨gb1194, 1, none⟩ = some (.int .i64 a0_1) ∧ w'.cell? (ad1195.add (x8_1).toNat) = some (.int .i64 (rd l1 x8_1))) (ds := []) #[false, false, false, false, false, false, false, false, false, false, false, false, false] (by kernel_rfl) rfl rfl ⟨(kQC BK1194.out 0).trans rfl, (kQC BK1194.out 1).trans rfl, ((HB.out.cell (World.block_lt_of_cell? w _ hw1195_0)).trans hw1195_0)⟩ (fun hHeld => ?_); refine with_tabW spec_l05Value.tab5 spec_l05Value.bits5 (fun HT_ HW_ => ?_)
     generalize wr.drew = w9 at BK1194 HB hx1195_0 hHeld ⊢
     refine pure_ (i := 0) (N := some 15) (v := ?_) (a' := ?_) #[true, false, false, false, false, false, false, false, false, false, false, false, false] rfl rfl (any_of HT_.out (by kernel_rfl)) (fun _ _ _ h => h) (Or.inl ⟨by rfl, ?_⟩) ?_ ?_
     rotate_left
     ·intro w'
      go_simp
      with_reducible rfl
     rotate_left
     ·simp only [Act.put, qSa, qSb, qSc, i64_w, i32_w]
      rfl
     refine pure_ (i := 2) (N := some 17) (v := ?_) (a' := ?_) #[true, false, true, false, false, false, false, false, false, false, false, false, false] rfl rfl (any_of HT_.out (by kernel_rfl)) (fun _ _ _ h => h) (Or.inl ⟨by rfl, ?_⟩) ?_ ?_
     rotate_left
     ·intro w'
      go_simp
      with_reducible rfl
     rotate_left
     ·simp only [Act.put, qSa, qSb, qSc, i64_w, i32_w]
      rfl
     refine pure_ (i := 3) (N := some 18) (v := ?_) (a' := ?_) #[true, false, true, true, false, false, false, false, false, false, false, false, false] rfl rfl (any_of HT_.out (by kernel_rfl)) (fun _ _ _ h => h) (Or.inl ⟨by rfl, ?_⟩) ?_ ?_
     rotate_left
     ·intro w'
      go_simp
      with_reducible rfl
     rotate_left
     ·simp only [Act.put, qSa, qSb, qSc, i64_w, i32_w]
      rfl
     refine pure_ (i := 4) (N := some 19) (v := ?_) (a' := ?_) #[true, false, true, true, true, false, false, false, false, false, false, false, false] rfl rfl (any_of HT_.out (by kernel_rfl)) (fun _ _ _ h => h) (Or.inl ⟨by rfl, ?_⟩) ?_ ?_
     rotate_left
     ·intro w'
      go_simp
      with_reducible rfl
     rotate_left
     ·simp only [Act.put, qSa, qSb, qSc, i64_w, i32_w]
      rfl
     refine pure_ (i := 7) (N := some 22) (v := ?_) (a' := ?_) #[true, false, true, true, true, false, false, true, false, false, false, false, false] rfl rfl (any_of HT_.out (by kernel_rfl)) (fun _ _ _ h => h) (Or.inl ⟨by rfl, ?_⟩) ?_ ?_
     rotate_left
     ·intro w'
      go_simp
      with_reducible rfl
     rotate_left
     ·simp only [Act.put, qSa, qSb, qSc, i64_w, i32_w]
      rfl
     refine pure_ (i := 8) (N := some 23) (v := ?_) (a' := ?_) #[true, false, true, true, true, false, false, true, true, false, false, false, false] rfl rfl (any_of HT_.out (by kernel_rfl)) (fun _ _ _ h => h) (Or.inl ⟨by rfl, ?_⟩) ?_ ?_
     rotate_left
     ·intro w'
      go_simp
      with_reducible rfl
     rotate_left
     ·simp only [Act.put, qSa, qSb, qSc, i64_w, i32_w]
      rfl
     refine take_ (i := 1) (N := some 16) (v := ?_) (a' := ?_) #[true, true, true, true, true, false, false, true, true, false, false, false, false] rfl rfl (take_ofW HT_.out HW_.out (by kernel_rfl)) (fun _ _ _ h => h) (Or.inl ⟨by rfl, ?_⟩) hHeld ?_ ?_
     rotate_left
     ·rintro w' ⟨s0, s1, s2⟩
      go_simp
      with_reducible rfl
     rotate_left
     ·simp only [Act.put, qSa, qSb, qSc, i64_w, i32_w]
      rfl
     refine take_ (i := 5) (N := some 20) (v := ?_) (a' := ?_) #[true, true, true, true, true, true, false, true, true, false, false, false, false] rfl rfl (take_ofW HT_.out HW_.out (by kernel_rfl)) (fun _ _ _ h => h) (Or.inl ⟨by rfl, ?_⟩) hHeld ?_ ?_
     rotate_left
     ·rintro w' ⟨s0, s1, s2⟩
      go_simp
      with_reducible rfl
     rotate_left
     ·simp only [Act.put, qSa, qSb, qSc, i64_w, i32_w]
      rfl
     refine take_ (i := 6) (N := some 21) (v := ?_) (a' := ?_) #[true, true, true, true, true, true, true, true, true, false, false, false, false] rfl rfl (take_ofW HT_.out HW_.out (by kernel_rfl)) (fun _ _ _ h => h) (Or.inl ⟨by rfl, ?_⟩) hHeld ?_ ?_
     rotate_left
     ·rintro w' ⟨s0, s1, s2⟩
      go_simp
      with_reducible rfl
     rotate_left
     ·simp only [Act.put, qSa, qSb, qSc, i64_w, i32_w]
      rfl
     refine one_ (i := 9) (N := some 24) #[true, true, true, true, true, true, true, true, true, true, false, false, false] rfl rfl (one_of HT_.out (by kernel_rfl)) (by decide) (fun K hK => ?_)
     refine goes_ Try.func112 (by kernel_rfl) rfl #[.agg #[.int .i64 a0_0, .int .i64 a0_1], .int .i64 a2, .int .i64 x8_1] (by rfl) rfl rfl (by (try simp only [List.map_toArray, List.map_cons, List.map_nil]); first | done | rfl | (simp only [List.length_drop, List.length_take]; rfl)) ?_
     with_reducible refine (spec_l01Square.calls k1 a0_0 a0_1 a2 x8_1 t1196 _ A7.out).mono ?_
     rintro e w10 ⟨rfl, hb⟩
     refine ⟨_, rfl, ?_⟩
     have n0_ := Aq.mk (kQB (g := gb1194) (o := .cells #[.int .i64 a0_0, .int .i64 a0_1] 29 (0, 0)) (by (with_reducible repeat (first | refine kQN ?_ _ | refine kQD ?_ | refine kQA ?_ _)); exact BK1194.out) hb)
     have n1_ := Aq.mk (bQT (by repeat (first | (with_reducible first | exact HB.out | apply bQA | apply bQN | apply bQ1 | refine bQS ?_ GE1194.out) | exact HB.out)) hb)
     clear BK1194
     clear HB
     have BK1194 := n0_
     have HB := n1_
     clear n0_ n1_
     (try clear hb)
     (try clear hb2)
     (try clear hk)
     (try clear hi)
     refine hK.out _ _ ⟨(kQC BK1194.out 0).trans rfl, (kQC BK1194.out 1).trans rfl, ((HB.out.cell (World.block_lt_of_cell? w _ hw1195_0)).trans hw1195_0)⟩ (fun hHeld => ?_)
     clear hK K
     refine norm_ (a' := ?_) ?_ ?_
     rotate_left
     ·show Act.put _ (some 24) _ = _
      simp only [Act.put, qSa, qSb, qSc, i64_w, i32_w]
      rfl
     refine one_ (i := 10) (N := some 25) #[true, true, true, true, true, true, true, true, true, true, true, false, false] rfl rfl (one_of HT_.out (by kernel_rfl)) (by decide) (fun K hK => ?_)
     refine goes_ Try.func137 (by kernel_rfl) rfl #[.agg #[.int .i64 a0_0, .int .i64 a0_1], .int .i64 (rd l1 x8_1), .int .i64 t1196] (by rfl) rfl rfl (by (try simp only [List.map_toArray, List.map_cons, List.map_nil]); first | done | rfl | (simp only [List.length_drop, List.length_take]; rfl)) ?_
     with_reducible refine (spec_l01Mul.calls k1 a0_0 a0_1 (rd l1 x8_1) t1196 t1197 _ A8.out).mono ?_
     rintro e w11 ⟨rfl, hb⟩
     refine ⟨_, rfl, ?_⟩
     have n0_ := Aq.mk (kQB (g := gb1194) (o := .cells #[.int .i64 a0_0, .int .i64 a0_1] 29 (0, 0)) (by (with_reducible repeat (first | refine kQN ?_ _ | refine kQD ?_ | refine kQA ?_ _)); exact BK1194.out) hb)
     have n1_ := Aq.mk (bQT (by repeat (first | (with_reducible first | exact HB.out | apply bQA | apply bQN | apply bQ1 | refine bQS ?_ GE1194.out) | exact HB.out)) hb)
     clear BK1194
     clear HB
     have BK1194 := n0_
     have HB := n1_
     clear n0_ n1_
     (try clear hb)
     (try clear hb2)
     (try clear hk)
     (try clear hi)
     refine hK.out _ _ ⟨(kQC BK1194.out 0).trans rfl, (kQC BK1194.out 1).trans rfl, ((HB.out.cell (World.block_lt_of_cell? w _ hw1195_0)).trans hw1195_0)⟩ (fun hHeld => ?_)
     clear hK K
     refine norm_ (a' := ?_) ?_ ?_
     rotate_left
     ·show Act.put _ (some 25) _ = _
      simp only [Act.put, qSa, qSb, qSc, i64_w, i32_w]
      rfl
     refine pure_ (i := 11) (N := some 26) (v := ?_) (a' := ?_) #[true, true, true, true, true, true, true, true, true, true, true, true, false] rfl rfl (any_of HT_.out (by kernel_rfl)) (fun _ _ _ h => h) (Or.inl ⟨by rfl, ?_⟩) ?_ ?_
     rotate_left
     ·intro w'
      go_simp
      with_reducible rfl
     rotate_left
     ·simp only [Act.put, qSa, qSb, qSc, i64_w, i32_w]
      rfl
     refine pure_ (i := 12) (N := some 7) (v := ?_) (a' := ?_) #[true, true, true, true, true, true, true, true, true, true, true, true, true] rfl rfl (any_of HT_.out (by kernel_rfl)) (fun _ _ _ h => h) (Or.inl ⟨by rfl, ?_⟩) ?_ ?_
     rotate_left
     ·intro w'
      go_simp
      with_reducible rfl
     rotate_left
     ·simp only [Act.put, qSa, qSb, qSc, i64_w, i32_w]
      rfl
     refine done_ (done_of HT_.out (by kernel_rfl)) ?_
     try go_wp2
     go_roundg k1
     case measure => have := HK1.out; omega
     case rel => exact ⟨(Go.bits .xor .i64 x7_1 t1197), (wrap64 (x8_1 + 1)), (by first | rfl | (simp; done) | (simp [*]; done)), (by first | rfl | (simp; done) | (simp [*]; done)), H', ⟨by have := HK1.out; omega⟩, ⟨by (with_reducible repeat (first | refine kQN ?_ _ | refine kQD ?_ | refine kQA ?_ _)); exact BK1194.out⟩, ⟨by repeat (first | (with_reducible first | exact HB.out | apply bQA | apply bQN | apply bQ1 | refine bQS ?_ GE1194.out) | exact HB.out)⟩⟩
    ·rw [if_neg c6] at H
     exact absurd H (by simp)
   ·rw [if_neg c5] at H
    have c5b0 : decide (x8_1 < (l1.length : Int)) = false := decide_eq_false c5
    clear c5
    obtain rfl := Option.some.inj H
    go_wp2
    go_ret
    exact ⟨by first | rfl | (simp [errW_none, errW_some] <;> rfl) | (simp [*, errW_none, errW_some] <;> rfl), by repeat (first | (with_reducible first | exact HB.out | apply bQA | apply bQN | apply bQ1 | refine bQS ?_ GE1194.out) | exact HB.out)⟩
def spec_l05Word.l0 : Nat → List Int → List Int → Int → Int → Int → List Int → Int → Option (List Int)
  | 0, _, _, _, _, _, _, _ => none
  | k + 1, x1, x5, x6, x41000, x41001, x41002, x41003 => if x6 < (x41002.length : Int) then (if 0 ≤ x6 then ((spec_l05Value.f k x41000 x41001 x1 (rd x41002 x6)).bind fun t1202 => (if x5.length < 17592186044416 then (spec_l05Word.l0 k x1 (x5 ++ [t1202]) (wrap64 (x6 + 1)) x41000 x41001 x41002 x41003) else (none))) else (none)) else (some x5)
def spec_l05Word.f (k : Nat) (a0_0 : Int) (a0_1 : Int) (l0_2 : List Int) (a0_3 : Int) (l1 : List Int) : Option (List Int) := spec_l05Word.l0 k l1 (([] : List Int)) 0 a0_0 a0_1 l0_2 a0_3
theorem spec_l05Word.mono_l : ∀ k, (∀ y0 y1 y2 y3 y4 y5 y6, LeO (spec_l05Word.l0 k y0 y1 y2 y3 y4 y5 y6) (spec_l05Word.l0 (k + 1) y0 y1 y2 y3 y4 y5 y6))
 | 0 => fun _ _ _ _ _ _ _ r h => by simp [spec_l05Word.l0] at h
 | k + 1 => by
  have ih0 := spec_l05Word.mono_l k
  ·intro y0 y1 y2 y3 y4 y5 y6
   unfold spec_l05Word.l0
   repeat' first
   | (with_reducible first | exact ih0 _ _ _ _ _ _ _ | exact spec_l05Value.mono _ _ _ _ _ | exact LeO.refl _ | exact LeO.none _ | refine LeO.ite ?_ ?_ | refine LeO.bind ?_ (fun _ => ?_))
   | exact LeO.none _
   | refine LeO.ite ?_ ?_
   | refine LeO.bind ?_ (fun _ => ?_)
theorem spec_l05Word.mono : ∀ a0 a1 a2 a3 a4 k, LeO (spec_l05Word.f k a0 a1 a2 a3 a4) (spec_l05Word.f (k + 1) a0 a1 a2 a3 a4) := by
 intro a0 a1 a2 a3 a4 k
 have ih0 := spec_l05Word.mono_l k
 unfold spec_l05Word.f
 repeat' first
  | (with_reducible first | exact ih0 _ _ _ _ _ _ _ | exact spec_l05Value.mono _ _ _ _ _ | exact LeO.refl _ | exact LeO.none _ | refine LeO.ite ?_ ?_ | refine LeO.bind ?_ (fun _ => ?_))
  | exact LeO.none _
  | refine LeO.ite ?_ ?_
  | refine LeO.bind ?_ (fun _ => ?_)
def spec_l05Word.T5 : Bool × List (List Nat × List Nat) := (true, [([], []), ([], []), ([1], [1]), ([2], [2]), ([3], [3]), ([], []), ([], []), ([6], [6]), ([7], [7]), ([8], [8]), ([], []), ([9, 10], [9, 10]), ([11], [11]), ([4, 5, 12], [4, 5, 12]), ([13], [13]), ([0, 14, 13], [0, 14]), ([15, 15, 0, 1, 2, 3, 4, 5, 6, 7, 8, 9, 10, 11, 12, 13, 14, 15], [0, 15])])
def spec_l05Word.B5 : List Nat := [0, 0, 2, 6, 14, 0, 0, 64, 192, 448, 0, 1984, 4032, 8190, 16382, 32767, 65535]
theorem spec_l05Word.tab5 : rtab .any (opsOf Try.f104 5) = spec_l05Word.T5 := by kernel_rfl
theorem spec_l05Word.bits5 : waitsOk spec_l05Word.T5.2 spec_l05Word.B5 = true := by kernel_rfl
set_option maxHeartbeats 8000000 in
set_option maxRecDepth 100000 in
theorem spec_l05Word.calls (k : Nat) (g0_0 : Addr) (a0_0 : Int) (a0_1 : Int) (A0_2 : Option Addr) (c0_2 : Nat) (l0_2 : List Int) (a0_3 : Int) (A1 : Option Addr) (c1 : Nat) (l1 : List Int) (r : List Int) (w : World) (hr0_2 : Kd.C (Kd.int .i64) w A0_2 l0_2.length l0_2) (hc0_2 : l0_2.length ≤ c0_2) (hr1 : Kd.C (Kd.int .i64) w A1 l1.length l1) (hc1 : l1.length ≤ c1) (hb0_0 : AtC w g0_0 [.int .i64 a0_0, .int .i64 a0_1, .slice A0_2 l0_2.length c0_2, .int .i64 a0_3]) (h : spec_l05Word.f k a0_0 a0_1 l0_2 a0_3 l1 = some r) :
 Calls Try.prog 104 #[.pointer (some g0_0), .slice A1 l1.length c1] w fun e w' => ∃ v0_ : Value, e = .returned (v0_) ∧ Kd.R (Kd.int .i64) 2 w' w.heap.size (fun _ => True) v0_ r ∧ Below w.heap.size w w' := by
 have hu29 := Try.underlying29
 have HR0_2 := Aq.mk hr0_2
 have HC0_2 := Aq.mk hc0_2
 clear hr0_2 hc0_2
 have HR1 := Aq.mk hr1
 have HC1 := Aq.mk hc1
 clear hr1 hc1
 have BK40 := Aq.mk hb0_0
 clear hb0_0
 have HB := Aq.mk (Below.refl w.heap.size w)
 have H : (spec_l05Word.l0 k l1 (([] : List Int)) 0 a0_0 a0_1 l0_2 a0_3) = some r := h
 clear h
 obtain ⟨y1198, hy1198⟩ : ∃ y_ : List Int, y_ = (([] : List Int)) := ⟨_, rfl⟩
 replace H : (spec_l05Word.l0 k l1 y1198 0 a0_0 a0_1 l0_2 a0_3) = some r := by first | (rw [hy1198]; with_reducible exact H) | (have H2_ := (Option.bind_some _ _).symm.trans H; rw [hy1198]; with_reducible exact H2_) | (have H2_ := (Option.bind_some _ _).symm.trans H; with_reducible exact H2_) | with_reducible exact H | (rw [hy1198]; exact H) | exact H
 have Ny1198 := Aq.mk hy1198
 clear hy1198
 have H' := Aq.mk H
 clear H
 go_enter Try.func104, Try.ntmps104
 go_wp2_with (first | ((with_reducible refine gQd (N := 7) rfl ?_); refine Kd.R_lit (Kd.int .i64) _ 2 ?hg (N := 7) ?hd (xs := ([] : List Int)) (inner := []) (ok := fun _ => True) (okp := fun _ => True) ?hr ?hp (fun _ hk => hk) trivial (Below.refl _ _) (Nat.le_refl _) (by simp) ?_; (case hd => rfl); (case hg => rfl); (case hr => first | (go_simp; done) | (go_simp; rfl)); (case hp => exact (Reps.none _ _)); intro v1199 w3 ho4 hb hg_ hnew_; clear hg_ hnew_; (first | rw [← Ny1198.out] at ho4 | (simp only [Int.reduceToNat] at ho4; rw [← Ny1198.out] at ho4)); have n0_ := Aq.mk (Kd.R_lower ho4 (bQZ (by repeat (first | (with_reducible first | exact HB.out | apply bQA | apply bQN | apply bQ1) | exact HB.out)))); have n1_ := Aq.mk (bQT (by repeat (first | (with_reducible first | exact HB.out | apply bQA | apply bQN | apply bQ1) | exact HB.out)) hb); clear HB; have HO1200 := n0_; have HB := n1_; clear n0_ n1_; clear hb ho4))
 go_loopg [5, 6] k (fun kq v5 v6 w' => ∃ (x5_1 : List Int) (x6_1 : Int), v6 = .int .i64 x6_1 ∧ Aq (spec_l05Word.l0 kq l1 x5_1 x6_1 a0_0 a0_1 l0_2 a0_3 = some r) ∧ Aq (kq ≤ k) ∧ Aq (Kd.R (Kd.int .i64) 2 w' w.heap.size (fun _ => True) v5 x5_1) ∧ Aq (Below w.heap.size w w'))
 case atStart => exact ⟨(y1198), (0), (by first | rfl | (simp; done) | (simp [*]; done)), H', ⟨Nat.le_refl _⟩, ⟨by (with_reducible repeat (first | apply Kd.RqA | apply Kd.RqN | apply Kd.RqD)); exact HO1200.out⟩, ⟨by repeat (first | (with_reducible first | exact HB.out | apply bQA | apply bQN | apply bQ1) | exact HB.out)⟩⟩
 case round =>
  clear H'
  try clear c1
  try clear p2
  obtain ⟨x5_1, x6_1, rfl, HA, HK1, HO_5, HB⟩ := hrel
  cases gk with
  | zero => exact absurd HA.out (by simp [spec_l05Word.l0])
  | succ k1 =>
   have H := HA.out
   clear HA
   simp only [spec_l05Word.l0] at H
   by_cases c5 : x6_1 < (l0_2.length : Int)
   ·rw [if_pos c5] at H
    have c5b0 : decide (x6_1 < (l0_2.length : Int)) = true := decide_eq_true c5
    clear c5
    by_cases c6 : 0 ≤ x6_1
    ·rw [if_pos c6] at H
     have c6b0 : decide (0 ≤ x6_1) = true := decide_eq_true c6
     clear c6
     replace H := Option.bind_eq_some_iff.mp H
     obtain ⟨t1202, A70, H⟩ := H
     replace H : (if x5_1.length < 17592186044416 then (spec_l05Word.l0 k1 l1 (x5_1 ++ [t1202]) (wrap64 (x6_1 + 1)) a0_0 a0_1 l0_2 a0_3) else (none)) = some r := H
     have A7 := Aq.mk A70
     clear A70
     by_cases c8 : x5_1.length < 17592186044416
     ·rw [if_pos c8] at H
      have LMc8 := Aq.mk c8
      clear c8
      obtain ⟨y1203, hy1203⟩ : ∃ y_ : List Int, y_ = (x5_1 ++ [t1202]) := ⟨_, rfl⟩
      replace H : (spec_l05Word.l0 k1 l1 y1203 (wrap64 (x6_1 + 1)) a0_0 a0_1 l0_2 a0_3) = some r := by first | (rw [hy1203]; with_reducible exact H) | (have H2_ := (Option.bind_some _ _).symm.trans H; rw [hy1203]; with_reducible exact H2_) | (have H2_ := (Option.bind_some _ _).symm.trans H; with_reducible exact H2_) | with_reducible exact H | (rw [hy1203]; exact H) | exact H
      have Ny1203 := Aq.mk hy1203
      clear hy1203
      have H' := Aq.mk H
      clear H
      have hcz9_0 : wr.cell? g0_0 = some (.int .i64 a0_0) := AtC.cell0 (AtC.below BK40.out HB.out) _ rfl
      have hcz9_1 : wr.cell? ⟨g0_0.block, g0_0.off + 1, none⟩ = some (.int .i64 a0_1) := AtC.cell (AtC.below BK40.out HB.out) 1 _ (by decide) rfl
      have hcz9_2 : wr.cell? ⟨g0_0.block, g0_0.off + 2, none⟩ = some (.slice A0_2 l0_2.length c0_2) := AtC.cell (AtC.below BK40.out HB.out) 2 _ (by decide) rfl
      have hcz9_3 : wr.cell? ⟨g0_0.block, g0_0.off + 3, none⟩ = some (.int .i64 a0_3) := AtC.cell (AtC.below BK40.out HB.out) 3 _ (by decide) rfl
      try go_wp2
      have n0_ := Aq.mk (Kd.RqD HO_5.out)
      have n1_ := Aq.mk (bQ1 HB.out)
      clear HO_5
      clear HB
      have HO_5 := n0_
      have HB := n1_
      clear n0_ n1_
      have p1201 : 0 ≤ (x6_1 : Int) := of_decide_eq_true (by first | (with_reducible assumption) | assumption)
      have q1201 : x6_1 < (l0_2.length : Int) := of_decide_eq_true (by first | (with_reducible assumption) | assumption)
      obtain ⟨ad1201, e1201, hx1201_0⟩ := Kd.at_int HR0_2.out x6_1 p1201 q1201
      have hw1201_0 := hx1201_0
      cases e1201
      replace hx1201_0 := (HB.out.cell (World.block_lt_of_cell? w _ hx1201_0)).trans hx1201_0
      replace p1201 := eq_true p1201
      replace q1201 := eq_true q1201
      refine start_ (n := 17) (S := fun w' => w'.cell? g0_0 = some (.int .i64 a0_0) ∧ w'.cell? ⟨g0_0.block, g0_0.off + 1, none⟩ = some (.int .i64 a0_1) ∧ w'.cell? ⟨g0_0.block, g0_0.off + 2, none⟩ = some (.slice (some ad1201) l0_2.length c0_2) ∧ w'.cell? ⟨g0_0.block, g0_0.off + 3, none⟩ = some (.int .i64 a0_3) ∧ w'.cell? (ad1201.add (x6_1).toNat) = some (.int .i64 (rd l0_2 x6_1))) (ds := []) #[false, false, false, false, false, false, false, false, false, false, false, false, false, false, false, false, false] (by kernel_rfl) rfl rfl ⟨((HB.out.cell (World.block_lt_of_cell? w _ (AtC.cell0 BK40.out _ rfl : w.cell? g0_0 = some (.int .i64 a0_0)))).trans (AtC.cell0 BK40.out _ rfl : w.cell? g0_0 = some (.int .i64 a0_0))), ((HB.out.cell (World.block_lt_of_cell? w _ (AtC.cell BK40.out 1 _ (by decide) rfl : w.cell? ⟨g0_0.block, g0_0.off + 1, none⟩ = some (.int .i64 a0_1)))).trans (AtC.cell BK40.out 1 _ (by decide) rfl : w.cell? ⟨g0_0.block, g0_0.off + 1, none⟩ = some (.int .i64 a0_1))), ((HB.out.cell (World.block_lt_of_cell? w _ (AtC.cell BK40.out 2 _ (by decide) rfl : w.cell? ⟨g0_0.block, g0_0.off + 2, none⟩ = some (.slice (some ad1201) l0_2.length c0_2)))).trans (AtC.cell BK40.out 2 _ (by decide) rfl : w.cell? ⟨g0_0.block, g0_0.off + 2, none⟩ = some (.slice (some ad1201) l0_2.length c0_2))), ((HB.out.cell (World.block_lt_of_cell? w _ (AtC.cell BK40.out 3 _ (by decide) rfl : w.cell? ⟨g0_0.block, g0_0.off + 3, none⟩ = some (.int .i64 a0_3)))).trans (AtC.cell BK40.out 3 _ (by decide) rfl : w.cell? ⟨g0_0.block, g0_0.off + 3, none⟩ = some (.int .i64 a0_3))), ((HB.out.cell (World.block_lt_of_cell? w _ hw1201_0)).trans hw1201_0)⟩ (fun hHeld => ?_); refine with_tabW spec_l05Word.tab5 spec_l05Word.bits5 (fun HT_ HW_ => ?_)
      generalize wr.drew = w10 at HO_5 HB hx1201_0 hHeld ⊢
      refine pure_ (i := 0) (N := some 17) (v := ?_) (a' := ?_) #[true, false, false, false, false, false, false, false, false, false, false, false, false, false, false, false, false] rfl rfl (any_of HT_.out (by kernel_rfl)) (fun _ _ _ h => h) (Or.inl ⟨by rfl, ?_⟩) ?_ ?_
      rotate_left
      ·intro w'
       go_simp
       with_reducible rfl
      rotate_left
      ·simp only [Act.put, qSa, qSb, qSc, i64_w, i32_w]
       rfl
      refine pure_ (i := 1) (N := some 18) (v := ?_) (a' := ?_) #[true, true, false, false, false, false, false, false, false, false, false, false, false, false, false, false, false] rfl rfl (any_of HT_.out (by kernel_rfl)) (fun _ _ _ h => h) (Or.inl ⟨by rfl, ?_⟩) ?_ ?_
      rotate_left
      ·intro w'
       go_simp
       with_reducible rfl
      rotate_left
      ·simp only [Act.put, qSa, qSb, qSc, i64_w, i32_w]
       rfl
      refine pure_ (i := 2) (N := some 19) (v := ?_) (a' := ?_) #[true, true, true, false, false, false, false, false, false, false, false, false, false, false, false, false, false] rfl rfl (any_of HT_.out (by kernel_rfl)) (fun _ _ _ h => h) (Or.inl ⟨by rfl, ?_⟩) ?_ ?_
      rotate_left
      ·intro w'
       go_simp
       with_reducible rfl
      rotate_left
      ·simp only [Act.put, qSa, qSb, qSc, i64_w, i32_w]
       rfl
      refine pure_ (i := 3) (N := some 20) (v := ?_) (a' := ?_) #[true, true, true, true, false, false, false, false, false, false, false, false, false, false, false, false, false] rfl rfl (any_of HT_.out (by kernel_rfl)) (fun _ _ _ h => h) (Or.inl ⟨by rfl, ?_⟩) ?_ ?_
      rotate_left
      ·intro w'
       go_simp
       with_reducible rfl
      rotate_left
      ·simp only [Act.put, qSa, qSb, qSc, i64_w, i32_w]
       rfl
      refine pure_ (i := 5) (N := some 22) (v := ?_) (a' := ?_) #[true, true, true, true, false, true, false, false, false, false, false, false, false, false, false, false, false] rfl rfl (any_of HT_.out (by kernel_rfl)) (fun _ _ _ h => h) (Or.inl ⟨by rfl, ?_⟩) ?_ ?_
      rotate_left
      ·intro w'
       go_simp
       with_reducible rfl
      rotate_left
      ·simp only [Act.put, qSa, qSb, qSc, i64_w, i32_w]
       rfl
      refine pure_ (i := 6) (N := some 23) (v := ?_) (a' := ?_) #[true, true, true, true, false, true, true, false, false, false, false, false, false, false, false, false, false] rfl rfl (any_of HT_.out (by kernel_rfl)) (fun _ _ _ h => h) (Or.inl ⟨by rfl, ?_⟩) ?_ ?_
      rotate_left
      ·intro w'
       go_simp
       with_reducible rfl
      rotate_left
      ·simp only [Act.put, qSa, qSb, qSc, i64_w, i32_w]
       rfl
      refine pure_ (i := 7) (N := some 24) (v := ?_) (a' := ?_) #[true, true, true, true, false, true, true, true, false, false, false, false, false, false, false, false, false] rfl rfl (any_of HT_.out (by kernel_rfl)) (fun _ _ _ h => h) (Or.inl ⟨by rfl, ?_⟩) ?_ ?_
      rotate_left
      ·intro w'
       go_simp
       with_reducible rfl
      rotate_left
      ·simp only [Act.put, qSa, qSb, qSc, i64_w, i32_w]
       rfl
      refine pure_ (i := 8) (N := some 25) (v := ?_) (a' := ?_) #[true, true, true, true, false, true, true, true, true, false, false, false, false, false, false, false, false] rfl rfl (any_of HT_.out (by kernel_rfl)) (fun _ _ _ h => h) (Or.inl ⟨by rfl, ?_⟩) ?_ ?_
      rotate_left
      ·intro w'
       go_simp
       with_reducible rfl
      rotate_left
      ·simp only [Act.put, qSa, qSb, qSc, i64_w, i32_w]
       rfl
      refine pure_ (i := 10) (N := some 27) (v := ?_) (a' := ?_) #[true, true, true, true, false, true, true, true, true, false, true, false, false, false, false, false, false] rfl rfl (any_of HT_.out (by kernel_rfl)) (fun _ _ _ h => h) (Or.inl ⟨by rfl, ?_⟩) ?_ ?_
      rotate_left
      ·intro w'
       go_simp
       with_reducible rfl
      rotate_left
      ·simp only [Act.put, qSa, qSb, qSc, i64_w, i32_w]
       rfl
      refine take_ (i := 4) (N := some 21) (v := ?_) (a' := ?_) #[true, true, true, true, true, true, true, true, true, false, true, false, false, false, false, false, false] rfl rfl (take_ofW HT_.out HW_.out (by kernel_rfl)) (fun _ _ _ h => h) (Or.inl ⟨by rfl, ?_⟩) hHeld ?_ ?_
      rotate_left
      ·rintro w' ⟨s0, s1, s2, s3, s4⟩
       go_simp
       with_reducible rfl
      rotate_left
      ·simp only [Act.put, qSa, qSb, qSc, i64_w, i32_w]
       rfl
      refine take_ (i := 9) (N := some 26) (v := ?_) (a' := ?_) #[true, true, true, true, true, true, true, true, true, true, true, false, false, false, false, false, false] rfl rfl (take_ofW HT_.out HW_.out (by kernel_rfl)) (fun _ _ _ h => h) (Or.inl ⟨by rfl, ?_⟩) hHeld ?_ ?_
      rotate_left
      ·rintro w' ⟨s0, s1, s2, s3, s4⟩
       go_simp
       with_reducible rfl
      rotate_left
      ·simp only [Act.put, qSa, qSb, qSc, i64_w, i32_w]
       rfl
      refine pure_ (i := 11) (N := some 28) (v := ?_) (a' := ?_) #[true, true, true, true, true, true, true, true, true, true, true, true, false, false, false, false, false] rfl rfl (any_of HT_.out (by kernel_rfl)) (fun _ _ _ h => h) (Or.inl ⟨by rfl, ?_⟩) ?_ ?_
      rotate_left
      ·intro w'
       go_simp
       with_reducible rfl
      rotate_left
      ·simp only [Act.put, qSa, qSb, qSc, i64_w, i32_w]
       rfl
      refine take_ (i := 12) (N := some 29) (v := ?_) (a' := ?_) #[true, true, true, true, true, true, true, true, true, true, true, true, true, false, false, false, false] rfl rfl (take_ofW HT_.out HW_.out (by kernel_rfl)) (fun _ _ _ h => h) (Or.inl ⟨by rfl, ?_⟩) hHeld ?_ ?_
      rotate_left
      ·rintro w' ⟨s0, s1, s2, s3, s4⟩
       go_simp
       with_reducible rfl
      rotate_left
      ·simp only [Act.put, qSa, qSb, qSc, i64_w, i32_w]
       rfl
      refine one_ (i := 13) (N := some 30) #[true, true, true, true, true, true, true, true, true, true, true, true, true, true, false, false, false] rfl rfl (one_of HT_.out (by kernel_rfl)) (by decide) (fun K hK => ?_)
      refine goes_ Try.func130 (by kernel_rfl) rfl #[.agg #[.int .i64 a0_0, .int .i64 a0_1], .slice A1 l1.length c1, .int .i64 (rd l0_2 x6_1)] (by rfl) rfl rfl (by (try simp only [List.map_toArray, List.map_cons, List.map_nil]); first | done | rfl | (simp only [List.length_drop, List.length_take]; rfl)) ?_
      with_reducible refine (spec_l05Value.calls k1 a0_0 a0_1 _ _ l1 (rd l0_2 x6_1) t1202 _ ?side1 ?side2 A7.out).mono ?_
      (case side1 => repeat (first | exact (Kd.C_below HR1.out HB.out) | (with_reducible refine Kd.CqA ?_ _) | (with_reducible refine Kd.CqN ?_ _) | (with_reducible refine Kd.CqD ?_)))
      (case side2 => exact HC1.out)
      rintro e w11 ⟨rfl, hb⟩
      refine ⟨_, rfl, ?_⟩
      have n0_ := Aq.mk (Kd.R_below (by (with_reducible repeat (first | apply Kd.RqA | apply Kd.RqN | apply Kd.RqD)); exact HO_5.out) hb)
      have n1_ := Aq.mk (bQT (by repeat (first | (with_reducible first | exact HB.out | apply bQA | apply bQN | apply bQ1) | exact HB.out)) hb)
      clear HO_5
      clear HB
      have HO_5 := n0_
      have HB := n1_
      clear n0_ n1_
      (try clear hb)
      (try clear hb2)
      (try clear hk)
      (try clear hi)
      refine hK.out _ _ ⟨((HB.out.cell (World.block_lt_of_cell? w _ (AtC.cell0 BK40.out _ rfl : w.cell? g0_0 = some (.int .i64 a0_0)))).trans (AtC.cell0 BK40.out _ rfl : w.cell? g0_0 = some (.int .i64 a0_0))), ((HB.out.cell (World.block_lt_of_cell? w _ (AtC.cell BK40.out 1 _ (by decide) rfl : w.cell? ⟨g0_0.block, g0_0.off + 1, none⟩ = some (.int .i64 a0_1)))).trans (AtC.cell BK40.out 1 _ (by decide) rfl : w.cell? ⟨g0_0.block, g0_0.off + 1, none⟩ = some (.int .i64 a0_1))), ((HB.out.cell (World.block_lt_of_cell? w _ (AtC.cell BK40.out 2 _ (by decide) rfl : w.cell? ⟨g0_0.block, g0_0.off + 2, none⟩ = some (.slice (some ad1201) l0_2.length c0_2)))).trans (AtC.cell BK40.out 2 _ (by decide) rfl : w.cell? ⟨g0_0.block, g0_0.off + 2, none⟩ = some (.slice (some ad1201) l0_2.length c0_2))), ((HB.out.cell (World.block_lt_of_cell? w _ (AtC.cell BK40.out 3 _ (by decide) rfl : w.cell? ⟨g0_0.block, g0_0.off + 3, none⟩ = some (.int .i64 a0_3)))).trans (AtC.cell BK40.out 3 _ (by decide) rfl : w.cell? ⟨g0_0.block, g0_0.off + 3, none⟩ = some (.int .i64 a0_3))), ((HB.out.cell (World.block_lt_of_cell? w _ hw1201_0)).trans hw1201_0)⟩ (fun hHeld => ?_)
      clear hK K
      refine norm_ (a' := ?_) ?_ ?_
      rotate_left
      ·show Act.put _ (some 30) _ = _
       simp only [Act.put, qSa, qSb, qSc, i64_w, i32_w]
       rfl
      refine one_ (i := 14) (N := some 31) #[true, true, true, true, true, true, true, true, true, true, true, true, true, true, true, false, false] rfl rfl (one_of HT_.out (by kernel_rfl)) (by decide) (fun K hK => ?_)
      refine value_ (w1 := ?_) (v := ?_) (by rfl) rfl ?_ ?_
      rotate_left 2
      ·go_simp
       constructor
       ·rfl
       ·rfl
      refine hK.out _ _ ⟨(World.cell?_alloc_lt _ _ _ (World.block_lt_of_cell? _ _ (((HB.out.cell (World.block_lt_of_cell? w _ (AtC.cell0 BK40.out _ rfl : w.cell? g0_0 = some (.int .i64 a0_0)))).trans (AtC.cell0 BK40.out _ rfl : w.cell? g0_0 = some (.int .i64 a0_0)))))).trans (((HB.out.cell (World.block_lt_of_cell? w _ (AtC.cell0 BK40.out _ rfl : w.cell? g0_0 = some (.int .i64 a0_0)))).trans (AtC.cell0 BK40.out _ rfl : w.cell? g0_0 = some (.int .i64 a0_0)))), (World.cell?_alloc_lt _ _ _ (World.block_lt_of_cell? _ _ (((HB.out.cell (World.block_lt_of_cell? w _ (AtC.cell BK40.out 1 _ (by decide) rfl : w.cell? ⟨g0_0.block, g0_0.off + 1, none⟩ = some (.int .i64 a0_1)))).trans (AtC.cell BK40.out 1 _ (by decide) rfl : w.cell? ⟨g0_0.block, g0_0.off + 1, none⟩ = some (.int .i64 a0_1)))))).trans (((HB.out.cell (World.block_lt_of_cell? w _ (AtC.cell BK40.out 1 _ (by decide) rfl : w.cell? ⟨g0_0.block, g0_0.off + 1, none⟩ = some (.int .i64 a0_1)))).trans (AtC.cell BK40.out 1 _ (by decide) rfl : w.cell? ⟨g0_0.block, g0_0.off + 1, none⟩ = some (.int .i64 a0_1)))), (World.cell?_alloc_lt _ _ _ (World.block_lt_of_cell? _ _ (((HB.out.cell (World.block_lt_of_cell? w _ (AtC.cell BK40.out 2 _ (by decide) rfl : w.cell? ⟨g0_0.block, g0_0.off + 2, none⟩ = some (.slice (some ad1201) l0_2.length c0_2)))).trans (AtC.cell BK40.out 2 _ (by decide) rfl : w.cell? ⟨g0_0.block, g0_0.off + 2, none⟩ = some (.slice (some ad1201) l0_2.length c0_2)))))).trans (((HB.out.cell (World.block_lt_of_cell? w _ (AtC.cell BK40.out 2 _ (by decide) rfl : w.cell? ⟨g0_0.block, g0_0.off + 2, none⟩ = some (.slice (some ad1201) l0_2.length c0_2)))).trans (AtC.cell BK40.out 2 _ (by decide) rfl : w.cell? ⟨g0_0.block, g0_0.off + 2, none⟩ = some (.slice (some ad1201) l0_2.length c0_2)))), (World.cell?_alloc_lt _ _ _ (World.block_lt_of_cell? _ _ (((HB.out.cell (World.block_lt_of_cell? w _ (AtC.cell BK40.out 3 _ (by decide) rfl : w.cell? ⟨g0_0.block, g0_0.off + 3, none⟩ = some (.int .i64 a0_3)))).trans (AtC.cell BK40.out 3 _ (by decide) rfl : w.cell? ⟨g0_0.block, g0_0.off + 3, none⟩ = some (.int .i64 a0_3)))))).trans (((HB.out.cell (World.block_lt_of_cell? w _ (AtC.cell BK40.out 3 _ (by decide) rfl : w.cell? ⟨g0_0.block, g0_0.off + 3, none⟩ = some (.int .i64 a0_3)))).trans (AtC.cell BK40.out 3 _ (by decide) rfl : w.cell? ⟨g0_0.block, g0_0.off + 3, none⟩ = some (.int .i64 a0_3)))), (World.cell?_alloc_lt _ _ _ (World.block_lt_of_cell? _ _ (((HB.out.cell (World.block_lt_of_cell? w _ hw1201_0)).trans hw1201_0)))).trans (((HB.out.cell (World.block_lt_of_cell? w _ hw1201_0)).trans hw1201_0))⟩ (fun hHeld => ?_)
      clear hK K
      refine norm_ (a' := ?_) ?_ ?_
      rotate_left
      ·show Act.put _ (some 31) _ = _
       simp only [Act.put, qSa, qSb, qSc, i64_w, i32_w]
       rfl
      refine one_ (i := 15) (N := some 32) #[true, true, true, true, true, true, true, true, true, true, true, true, true, true, true, true, false] rfl rfl (one_of HT_.out (by kernel_rfl)) (by decide) (fun K hK => ?_)
      refine Kd.R_append_step (Kd.int .i64) (w0 := w) w.heap.size (by rfl) (.tmp 17) (.tmp 31) 24 2 (.int .i64 0) 8 rfl Try.underlying24 info2 rfl (by decide) (by omega) u5 x5_1 t1202 [.int .i64 t1202] (fun _ => True) (fun _ => False) rfl rfl ?aP (fun _ hk => hk.elim) ?aF ?aO ?aB ?aS ?aL ?_
      (case aP => exact rfl)
      (case aB => exact (by repeat (first | (with_reducible first | exact HB.out | apply bQA | apply bQN | apply bQ1) | exact HB.out)))
      (case aF => exact (fun _ _ => trivial))
      (case aO => exact (by (with_reducible repeat (first | apply Kd.RqA | apply Kd.RqN | apply Kd.RqD)); exact HO_5.out))
      (case aS => exact (bQZ (by repeat (first | (with_reducible first | exact HB.out | apply bQA | apply bQN | apply bQ1) | exact HB.out))))
      (case aL => have := LMc8.out; omega)
      intro v1204 w12 ho hb hg hat
      rw [← Ny1203.out] at ho
      have n0_ := Aq.mk (hb)
      have n1_ := Aq.mk (ho)
      clear HB
      clear HO_5
      have HB := n0_
      have HO1205 := n1_
      clear n0_ n1_
      clear ho hb hg hat
      refine hK.out _ _ ⟨((HB.out.cell (World.block_lt_of_cell? w _ (AtC.cell0 BK40.out _ rfl : w.cell? g0_0 = some (.int .i64 a0_0)))).trans (AtC.cell0 BK40.out _ rfl : w.cell? g0_0 = some (.int .i64 a0_0))), ((HB.out.cell (World.block_lt_of_cell? w _ (AtC.cell BK40.out 1 _ (by decide) rfl : w.cell? ⟨g0_0.block, g0_0.off + 1, none⟩ = some (.int .i64 a0_1)))).trans (AtC.cell BK40.out 1 _ (by decide) rfl : w.cell? ⟨g0_0.block, g0_0.off + 1, none⟩ = some (.int .i64 a0_1))), ((HB.out.cell (World.block_lt_of_cell? w _ (AtC.cell BK40.out 2 _ (by decide) rfl : w.cell? ⟨g0_0.block, g0_0.off + 2, none⟩ = some (.slice (some ad1201) l0_2.length c0_2)))).trans (AtC.cell BK40.out 2 _ (by decide) rfl : w.cell? ⟨g0_0.block, g0_0.off + 2, none⟩ = some (.slice (some ad1201) l0_2.length c0_2))), ((HB.out.cell (World.block_lt_of_cell? w _ (AtC.cell BK40.out 3 _ (by decide) rfl : w.cell? ⟨g0_0.block, g0_0.off + 3, none⟩ = some (.int .i64 a0_3)))).trans (AtC.cell BK40.out 3 _ (by decide) rfl : w.cell? ⟨g0_0.block, g0_0.off + 3, none⟩ = some (.int .i64 a0_3))), ((HB.out.cell (World.block_lt_of_cell? w _ hw1201_0)).trans hw1201_0)⟩ (fun hHeld => ?_)
      clear hK K
      refine norm_ (a' := ?_) ?_ ?_
      rotate_left
      ·show Act.put _ (some 32) _ = _
       simp only [Act.put, qSa, qSb, qSc, i64_w, i32_w]
       rfl
      refine pure_ (i := 16) (N := some 5) (v := ?_) (a' := ?_) #[true, true, true, true, true, true, true, true, true, true, true, true, true, true, true, true, true] rfl rfl (any_of HT_.out (by kernel_rfl)) (fun _ _ _ h => h) (Or.inl ⟨by rfl, ?_⟩) ?_ ?_
      rotate_left
      ·intro w'
       go_simp
       with_reducible rfl
      rotate_left
      ·simp only [Act.put, qSa, qSb, qSc, i64_w, i32_w]
       rfl
      refine done_ (done_of HT_.out (by kernel_rfl)) ?_
      try go_wp2
      go_roundg k1
      case measure => have := HK1.out; omega
      case rel => exact ⟨(y1203), (wrap64 (x6_1 + 1)), (by first | rfl | (simp; done) | (simp [*]; done)), H', ⟨by have := HK1.out; omega⟩, ⟨by (with_reducible repeat (first | apply Kd.RqA | apply Kd.RqN | apply Kd.RqD)); exact HO1205.out⟩, ⟨by repeat (first | (with_reducible first | exact HB.out | apply bQA | apply bQN | apply bQ1) | exact HB.out)⟩⟩
     ·rw [if_neg c8] at H
      exact absurd H (by simp)
    ·rw [if_neg c6] at H
     exact absurd H (by simp)
   ·rw [if_neg c5] at H
    have c5b0 : decide (x6_1 < (l0_2.length : Int)) = false := decide_eq_false c5
    clear c5
    obtain rfl := Option.some.inj H
    have hcz13_0 : wr.cell? g0_0 = some (.int .i64 a0_0) := AtC.cell0 (AtC.below BK40.out HB.out) _ rfl
    have hcz13_1 : wr.cell? ⟨g0_0.block, g0_0.off + 1, none⟩ = some (.int .i64 a0_1) := AtC.cell (AtC.below BK40.out HB.out) 1 _ (by decide) rfl
    have hcz13_2 : wr.cell? ⟨g0_0.block, g0_0.off + 2, none⟩ = some (.slice A0_2 l0_2.length c0_2) := AtC.cell (AtC.below BK40.out HB.out) 2 _ (by decide) rfl
    have hcz13_3 : wr.cell? ⟨g0_0.block, g0_0.off + 3, none⟩ = some (.int .i64 a0_3) := AtC.cell (AtC.below BK40.out HB.out) 3 _ (by decide) rfl
    go_wp2
    go_ret
    exact ⟨_, by first | rfl | (simp [errW_none, errW_some] <;> rfl) | (simp [*, errW_none, errW_some] <;> rfl), by (with_reducible repeat (first | apply Kd.RqA | apply Kd.RqN | apply Kd.RqD)); exact HO_5.out, by repeat (first | (with_reducible first | exact HB.out | apply bQA | apply bQN | apply bQ1) | exact HB.out)⟩
end Go.Proofs.Ytngiionckbmkmaa.P
