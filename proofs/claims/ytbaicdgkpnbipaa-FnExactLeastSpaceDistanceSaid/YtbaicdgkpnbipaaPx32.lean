/- Functions of the program and what they tell, as the printing program wrote it. -/
import Derived.Test.YtbaicdgkpnbipaaPx0
import Derived.Test.YtbaicdgkpnbipaaPx2
import Derived.Test.YtbaicdgkpnbipaaPx6
import Derived.Test.YtbaicdgkpnbipaaPx31
namespace Go.Proofs.Ytbaicdgkpnbipaa.P
open Go.Shelf Go.RowKit Go.Proofs.YtbaicdgkpnbipaaW.PrintWords Go.Proofs.YtbaicdgkpnbipaaW.PrintLast Go.Proofs.YtbaicdgkpnbipaaW.PrintMore
attribute [local go_sem] max2_int min2_int max_two min_two max_three min_three max_four min_four
set_option linter.unusedVariables false
set_option linter.unusedSimpArgs false
mutual
def impl_ValidSpaces.l0 : Nat → List (S26) → List (S26) → Int → Int → Option (Bool)
  | 0, _, _, _, _ => none
  | k + 1, x0, x11, x12, x13 => if x13 < x12 then (if 0 ≤ x13 then (if x13 < (x11.length : Int) then ((impl_IsSpace.f k ((rd_T26 x11 x13).f0) ((rd_T26 x11 x13).f1)).bind fun t699 => (if t699 = true then (if 0 < (x0.length : Int) then (if ((rd_T26 x11 x13).f0) = ((rd_T26 x0 0).f0) then (impl_ValidSpaces.j1 k x0 x13 x11 x12 x13 ((((rd_T26 x11 x13).f1).length : Int) != (((rd_T26 x0 0).f1).length : Int)) ((rd_T26 x11 x13).f0) ((rd_T26 x11 x13).f1)) else (impl_ValidSpaces.j1 k x0 x13 x11 x12 x13 true ((rd_T26 x11 x13).f0) ((rd_T26 x11 x13).f1))) else (none)) else (impl_ValidSpaces.j1 k x0 x13 x11 x12 x13 true ((rd_T26 x11 x13).f0) ((rd_T26 x11 x13).f1)))) else (none)) else (none)) else (some true)
def impl_ValidSpaces.j1 : Nat → List (S26) → Int → List (S26) → Int → Int → Bool → Int → List Int → Option (Bool)
  | 0, _, _, _, _, _, _, _, _ => none
  | k + 1, x0, x3, x11, x12, x13, x40, x699000, x699001 => if x40 = true then (some false) else (if 0 ≤ x3 then (if x3 ≤ (x0.length : Int) then ((some (x0.take (x3 : Int).toNat : List (S26))).bind fun y702 => (impl_ValidSpaces.l1 k x0 x11 x12 x13 y702 (y702.length : Int) 0 x699000 x699001)) else (none)) else (none))
def impl_ValidSpaces.l1 : Nat → List (S26) → List (S26) → Int → Int → List (S26) → Int → Int → Int → List Int → Option (Bool)
  | 0, _, _, _, _, _, _, _, _, _ => none
  | k + 1, x0, x11, x12, x13, x43, x44, x45, x699000, x699001 => if x45 < x44 then (if 0 ≤ x45 then (if x45 < (x43.length : Int) then ((impl_SameMatrix.f k x699000 x699001 ((rd_T26 x43 x45).f0) ((rd_T26 x43 x45).f1)).bind fun t708 => (if t708 = true then (some false) else (impl_ValidSpaces.l1 k x0 x11 x12 x13 x43 x44 (wrap64 (x45 + 1)) x699000 x699001))) else (none)) else (none)) else (impl_ValidSpaces.l0 k x0 x11 x12 (wrap64 (x13 + 1)))
end
def impl_ValidSpaces.f (k : Nat) (l0 : List (S26)) : Option (Bool) := (impl_Matrix.f l0).bind fun t695 => ((impl_within.f t695 1 400).bind fun t696 => (if t696 = true then (impl_ValidSpaces.l0 k l0 l0 (l0.length : Int) 0) else (some false)))
theorem impl_ValidSpaces.mono_l : ∀ k, (∀ y0 y1 y2 y3, LeO (impl_ValidSpaces.l0 k y0 y1 y2 y3) (impl_ValidSpaces.l0 (k + 1) y0 y1 y2 y3)) ∧ (∀ y0 y1 y2 y3 y4 y5 y6 y7, LeO (impl_ValidSpaces.j1 k y0 y1 y2 y3 y4 y5 y6 y7) (impl_ValidSpaces.j1 (k + 1) y0 y1 y2 y3 y4 y5 y6 y7)) ∧ (∀ y0 y1 y2 y3 y4 y5 y6 y7 y8, LeO (impl_ValidSpaces.l1 k y0 y1 y2 y3 y4 y5 y6 y7 y8) (impl_ValidSpaces.l1 (k + 1) y0 y1 y2 y3 y4 y5 y6 y7 y8))
 | 0 => ⟨fun _ _ _ _ r h => by simp [impl_ValidSpaces.l0] at h, fun _ _ _ _ _ _ _ _ r h => by simp [impl_ValidSpaces.j1] at h, fun _ _ _ _ _ _ _ _ _ r h => by simp [impl_ValidSpaces.l1] at h⟩
 | k + 1 => by
  obtain ⟨ih0, ih1, ih2⟩ := impl_ValidSpaces.mono_l k
  refine ⟨?_, ?_, ?_⟩
  ·intro y0 y1 y2 y3
   unfold impl_ValidSpaces.l0
   repeat' first
   | (with_reducible first | exact ih0 _ _ _ _ | exact ih1 _ _ _ _ _ _ _ _ | exact ih2 _ _ _ _ _ _ _ _ _ | exact impl_IsSpace.mono _ _ _ | exact impl_SameMatrix.mono _ _ _ _ _ | exact LeO.refl _ | exact LeO.none _ | refine LeO.ite ?_ ?_ | refine LeO.bind ?_ (fun _ => ?_))
   | exact LeO.none _
   | refine LeO.ite ?_ ?_
   | refine LeO.bind ?_ (fun _ => ?_)
  ·intro y0 y1 y2 y3 y4 y5 y6 y7
   unfold impl_ValidSpaces.j1
   repeat' first
   | (with_reducible first | exact ih0 _ _ _ _ | exact ih1 _ _ _ _ _ _ _ _ | exact ih2 _ _ _ _ _ _ _ _ _ | exact impl_IsSpace.mono _ _ _ | exact impl_SameMatrix.mono _ _ _ _ _ | exact LeO.refl _ | exact LeO.none _ | refine LeO.ite ?_ ?_ | refine LeO.bind ?_ (fun _ => ?_))
   | exact LeO.none _
   | refine LeO.ite ?_ ?_
   | refine LeO.bind ?_ (fun _ => ?_)
  ·intro y0 y1 y2 y3 y4 y5 y6 y7 y8
   unfold impl_ValidSpaces.l1
   repeat' first
   | (with_reducible first | exact ih0 _ _ _ _ | exact ih1 _ _ _ _ _ _ _ _ | exact ih2 _ _ _ _ _ _ _ _ _ | exact impl_IsSpace.mono _ _ _ | exact impl_SameMatrix.mono _ _ _ _ _ | exact LeO.refl _ | exact LeO.none _ | refine LeO.ite ?_ ?_ | refine LeO.bind ?_ (fun _ => ?_))
   | exact LeO.none _
   | refine LeO.ite ?_ ?_
   | refine LeO.bind ?_ (fun _ => ?_)
theorem impl_ValidSpaces.mono : ∀ a0 k, LeO (impl_ValidSpaces.f k a0) (impl_ValidSpaces.f (k + 1) a0) := by
 intro a0 k
 obtain ⟨ih0, ih1, ih2⟩ := impl_ValidSpaces.mono_l k
 unfold impl_ValidSpaces.f
 repeat' first
  | (with_reducible first | exact ih0 _ _ _ _ | exact ih1 _ _ _ _ _ _ _ _ | exact ih2 _ _ _ _ _ _ _ _ _ | exact impl_IsSpace.mono _ _ _ | exact impl_SameMatrix.mono _ _ _ _ _ | exact LeO.refl _ | exact LeO.none _ | refine LeO.ite ?_ ?_ | refine LeO.bind ?_ (fun _ => ?_))
  | exact LeO.none _
  | refine LeO.ite ?_ ?_
  | refine LeO.bind ?_ (fun _ => ?_)
def impl_ValidSpaces.T6 : Bool × List (List Nat × List Nat) := (true, [([], []), ([0], [0]), ([1], [1]), ([2, 1], [2]), ([3], [3]), ([4, 3], [3, 4]), ([3], [3]), ([6, 3], [3, 6]), ([7, 3], [3, 7]), ([8, 3], [3, 8]), ([5, 9, 3], [3, 5, 9]), ([3, 10], [3, 10]), ([11, 3], [11]), ([12], [12]), ([13, 12], [12, 13]), ([14, 12], [12, 14]), ([12], [12]), ([16, 12], [12, 16]), ([17, 12], [12, 17]), ([18, 12], [12, 18]), ([19, 12], [12, 19]), ([15, 20, 12], [12, 15, 20]), ([12, 21], [12, 21])])
def impl_ValidSpaces.B6 : List Nat := [0, 1, 3, 7, 15, 31, 15, 79, 207, 463, 1023, 2047, 4095, 8191, 16383, 32767, 8191, 73727, 204799, 466943, 991231, 2097151, 4194303]
theorem impl_ValidSpaces.tab6 : rtab .any (opsOf Try.f38 6) = impl_ValidSpaces.T6 := by kernel_rfl
theorem impl_ValidSpaces.bits6 : waitsOk impl_ValidSpaces.T6.2 impl_ValidSpaces.B6 = true := by kernel_rfl
set_option maxHeartbeats 8000000 in
set_option maxRecDepth 100000 in
theorem impl_ValidSpaces.calls (k : Nat) (A0 : Option Addr) (c0 : Nat) (l0 : List (S26)) (r : Bool) (w : World) (hr0 : Kd.C k26 w A0 l0.length l0) (hc0 : l0.length ≤ c0) (h : impl_ValidSpaces.f k l0 = some r) :
 Calls Try.prog 38 #[.slice A0 l0.length c0] w fun e w' => e = .returned (.bool r) ∧ Below w.heap.size w w' := by
 have hu26 := Try.underlying26
 have HR0 := Aq.mk hr0
 have HC0 := Aq.mk hc0
 clear hr0 hc0
 have HB := Aq.mk (Below.refl w.heap.size w)
 have H : ((impl_Matrix.f l0).bind fun t695 => ((impl_within.f t695 1 400).bind fun t696 => (if t696 = true then (impl_ValidSpaces.l0 k l0 l0 (l0.length : Int) 0) else (some false)))) = some r := h
 clear h
 replace H := Option.bind_eq_some_iff.mp H
 obtain ⟨t695, A20, H⟩ := H
 replace H : ((impl_within.f t695 1 400).bind fun t696 => (if t696 = true then (impl_ValidSpaces.l0 k l0 l0 (l0.length : Int) 0) else (some false))) = some r := H
 have A2 := Aq.mk A20
 clear A20
 replace H := Option.bind_eq_some_iff.mp H
 obtain ⟨t696, A30, H⟩ := H
 replace H : (if t696 = true then (impl_ValidSpaces.l0 k l0 l0 (l0.length : Int) 0) else (some false)) = some r := H
 have A3 := Aq.mk A30
 clear A30
 by_cases c4 : t696 = true
 ·subst c4
  have H1 : (impl_ValidSpaces.l0 k l0 l0 (l0.length : Int) 0) = some r := by rw [if_pos rfl] at H; exact H
  clear H
  have H := H1
  clear H1
  have H' := Aq.mk H
  clear H
  go_enter Try.func38, Try.ntmps38
  go_wp2_with (first | ((with_reducible refine gQc (f := 82) rfl ?_); refine goesL_ (some 8) rfl rfl Try.func82 (by kernel_rfl) rfl #[.slice A0 l0.length c0] rfl (by (try simp only [List.map_toArray, List.map_cons, List.map_nil]); first | done | rfl | (simp only [List.length_drop, List.length_take]; rfl)) ?_; (with_reducible refine (impl_Matrix.calls _ _ l0 t695 _ ?side1 ?side2 A2.out).mono ?_); (case side1 => repeat (first | exact HR0.out | (with_reducible refine Kd.CqA ?_ _) | (with_reducible refine Kd.CqN ?_ _) | (with_reducible refine Kd.CqD ?_))); (case side2 => exact HC0.out); rintro e w' ⟨rfl, ⟨nd, rfl⟩⟩; refine ⟨_, rfl, ?_⟩) | ((with_reducible refine gQc (f := 81) rfl ?_); refine goesL_ (some 9) rfl rfl Try.func81 (by kernel_rfl) rfl #[.int .i64 t695, .int .i64 1, .int .i64 400] rfl (by (try simp only [List.map_toArray, List.map_cons, List.map_nil]); first | done | rfl | (simp only [List.length_drop, List.length_take]; rfl)) ?_; (with_reducible refine (impl_within.calls t695 1 400 true _ A3.out).mono ?_); rintro e w' ⟨rfl, ⟨nd, rfl⟩⟩; refine ⟨_, rfl, ?_⟩))
  go_loopg [13] k (fun kq v13 w' => ∃ (x13_1 : Int), v13 = .int .i64 x13_1 ∧ Aq (impl_ValidSpaces.l0 kq l0 l0 (l0.length : Int) x13_1 = some r) ∧ Aq (kq ≤ k) ∧ Aq (Below w.heap.size w w'))
  case atStart => exact ⟨(0), (by first | rfl | (simp; done) | (simp [*]; done)), H', ⟨Nat.le_refl _⟩, ⟨by repeat (first | (with_reducible first | exact HB.out | apply bQA | apply bQN | apply bQ1) | exact HB.out)⟩⟩
  case round =>
   clear H'
   try clear p2
   try clear c3
   try clear c4
   obtain ⟨x13_1, rfl, HA, HK1, HB⟩ := hrel
   cases gk with
   | zero => exact absurd HA.out (by simp [impl_ValidSpaces.l0])
   | succ k1 =>
    have H := HA.out
    clear HA
    simp only [impl_ValidSpaces.l0] at H
    by_cases c5 : x13_1 < (l0.length : Int)
    ·rw [if_pos c5] at H
     have c5b0 : decide (x13_1 < (l0.length : Int)) = true := decide_eq_true c5
     clear c5
     by_cases c6 : 0 ≤ x13_1
     ·rw [if_pos c6] at H
      have c6b0 : decide (0 ≤ x13_1) = true := decide_eq_true c6
      clear c6
      by_cases c7 : x13_1 < (l0.length : Int)
      ·rw [if_pos c7] at H
       have c7b0 : decide (x13_1 < (l0.length : Int)) = true := decide_eq_true c7
       clear c7
       have HC8 := Aq.mk H
       clear H
       have p697 : 0 ≤ (x13_1 : Int) := of_decide_eq_true (by first | (with_reducible assumption) | assumption)
       have q697 : x13_1 < (l0.length : Int) := of_decide_eq_true (by first | (with_reducible assumption) | assumption)
       obtain ⟨ad697, A697_1, c697_1, e697, hx697_0, hx697_1, hl697_1, hi697_1⟩ := at_T26 HR0.out x13_1 p697 q697
       cases e697
       replace hx697_0 := (HB.out.cell (World.block_lt_of_cell? w _ hx697_0)).trans hx697_0
       replace hx697_1 := (HB.out.cell (World.block_lt_of_cell? w _ hx697_1)).trans hx697_1
       have HR697_1 := Aq.mk hi697_1
       have HC697_1 := Aq.mk hl697_1
       clear hi697_1 hl697_1
       replace p697 := eq_true p697
       replace q697 := eq_true q697
       go_upto_region 6 with (first | ((with_reducible refine gQd (N := 4) rfl ?_); (try (refine gate_guard (by rfl) ?_; dsimp only)); refine xQe ?hg (N := 4) ?hd (cs := #[.int .i64 0, .slice none 0 0]) (t := 26) ?hr ?_; (case hd => rfl); (case hg => rfl); (case hr => first | (go_simp; done) | (go_simp; rfl)); intro gb698 hg w9 hbox hb; have n0_ := Aq.mk (bQT (by repeat (first | (with_reducible first | exact HB.out | apply bQA | apply bQN | apply bQ1) | exact HB.out)) hb); have n1_ := Aq.mk (hbox); have n2_ := Aq.mk ((by rw [hg]; exact (bQZ (by repeat (first | (with_reducible first | exact HB.out | apply bQA | apply bQN | apply bQ1) | exact HB.out))) : w.heap.size ≤ gb698)); have n3_ := Aq.mk ((by rw [hg]; exact (bQZ (by repeat (first | (with_reducible first | exact HB.out | apply bQA | apply bQN | apply bQ1) | exact HB.out))) : w.heap.size ≤ gb698)); clear HB; have HB := n0_; have BK698 := n1_; have GW698 := n2_; have GE698 := n3_; clear n0_ n1_ n2_ n3_; clear hb hbox hg; have hcz10_0 : w9.cell? ⟨gb698, 0, none⟩ = some (.int .i64 0) := (kQC BK698.out 0).trans rfl; have hcz10_1 : w9.cell? ⟨gb698, 1, none⟩ = some (.slice none 0 0) := (kQC BK698.out 1).trans rfl; have hfz10_0 := kQF BK698.out 0; have hfz10_1 := kQF BK698.out 1))
       (try simp only [Act.put, qSa, qSb, qSc])
       go_cut [40] (fun v40 wc => ∃ (kq : Nat) (x40_7 : Bool), v40 = .bool x40_7 ∧ Aq (impl_ValidSpaces.j1 kq l0 x13_1 l0 (l0.length : Int) x13_1 x40_7 ((rd_T26 l0 x13_1).f0) ((rd_T26 l0 x13_1).f1) = some r) ∧ Aq (kq ≤ k1) ∧ Aq (wc.heap[gb698]? = some (.cells #[.int .i64 ((rd_T26 l0 x13_1).f0), (.slice A697_1 ((rd_T26 l0 x13_1).f1).length c697_1)] 26 (0, 0))) ∧ Aq (Below w.heap.size w wc))
       case first =>
        have H := HC8.out
        clear HC8
        replace H := Option.bind_eq_some_iff.mp H
        obtain ⟨t699, A110, H⟩ := H
        replace H : (if t699 = true then (if 0 < (l0.length : Int) then (if ((rd_T26 l0 x13_1).f0) = ((rd_T26 l0 0).f0) then (impl_ValidSpaces.j1 k1 l0 x13_1 l0 (l0.length : Int) x13_1 ((((rd_T26 l0 x13_1).f1).length : Int) != (((rd_T26 l0 0).f1).length : Int)) ((rd_T26 l0 x13_1).f0) ((rd_T26 l0 x13_1).f1)) else (impl_ValidSpaces.j1 k1 l0 x13_1 l0 (l0.length : Int) x13_1 true ((rd_T26 l0 x13_1).f0) ((rd_T26 l0 x13_1).f1))) else (none)) else (impl_ValidSpaces.j1 k1 l0 x13_1 l0 (l0.length : Int) x13_1 true ((rd_T26 l0 x13_1).f0) ((rd_T26 l0 x13_1).f1))) = some r := H
        have A11 := Aq.mk A110
        clear A110
        by_cases c12 : t699 = true
        ·subst c12
         have H1 : (if 0 < (l0.length : Int) then (if ((rd_T26 l0 x13_1).f0) = ((rd_T26 l0 0).f0) then (impl_ValidSpaces.j1 k1 l0 x13_1 l0 (l0.length : Int) x13_1 ((((rd_T26 l0 x13_1).f1).length : Int) != (((rd_T26 l0 0).f1).length : Int)) ((rd_T26 l0 x13_1).f0) ((rd_T26 l0 x13_1).f1)) else (impl_ValidSpaces.j1 k1 l0 x13_1 l0 (l0.length : Int) x13_1 true ((rd_T26 l0 x13_1).f0) ((rd_T26 l0 x13_1).f1))) else (none)) = some r := by rw [if_pos rfl] at H; exact H
         clear H
         have H := H1
         clear H1
         by_cases c13 : 0 < (l0.length : Int)
         ·rw [if_pos c13] at H
          have c13b0 : decide (0 < (l0.length : Int)) = true := decide_eq_true c13
          have c13b1 : decide (0 < l0.length) = true := decide_eq_true (by omega)
          clear c13
          (first | rw [c13b0] | (simp only [i64_w, i32_w]; rw [c13b0]) | skip)
          by_cases c14 : ((rd_T26 l0 x13_1).f0) = ((rd_T26 l0 0).f0)
          ·rw [if_pos c14] at H
           have c14b0 : (((rd_T26 l0 x13_1).f0) == ((rd_T26 l0 0).f0)) = true := beq_iff_eq.mpr c14
           have c14b1 : (((rd_T26 l0 x13_1).f0) != ((rd_T26 l0 0).f0)) = false := bne_eq_false_iff_eq.mpr c14
           clear c14
           have H' := Aq.mk H
           clear H
           try go_wp2
           have n0_ : Aq (((w9.setCell ⟨gb698, 0, none⟩ (.int .i64 ((rd_T26 l0 x13_1).f0))).setCell ⟨gb698, 1, none⟩ (.slice A697_1 ((rd_T26 l0 x13_1).f1).length c697_1)).heap[gb698]? = some (.cells #[.int .i64 ((rd_T26 l0 x13_1).f0), .slice A697_1 ((rd_T26 l0 x13_1).f1).length c697_1] 26 (0, 0))) := ⟨by (with_reducible repeat (first | refine kQN ?_ _ | refine kQD ?_ | refine kQA ?_ _)); refine kQP (cs := #[.int .i64 ((rd_T26 l0 x13_1).f0), .slice none 0 0]) ?_ 1 _ rfl; (with_reducible repeat (first | refine kQN ?_ _ | refine kQD ?_ | refine kQA ?_ _)); refine kQP (cs := #[.int .i64 0, .slice none 0 0]) ?_ 0 _ rfl; (with_reducible repeat (first | refine kQN ?_ _ | refine kQD ?_ | refine kQA ?_ _)); exact BK698.out⟩
           have n1_ : Aq (Below w.heap.size w ((w9.setCell ⟨gb698, 0, none⟩ (.int .i64 ((rd_T26 l0 x13_1).f0))).setCell ⟨gb698, 1, none⟩ (.slice A697_1 ((rd_T26 l0 x13_1).f1).length c697_1))) := ⟨by repeat (first | (with_reducible first | exact HB.out | apply bQA | apply bQN | apply bQ1 | refine bQS ?_ GE698.out) | exact HB.out)⟩
           (try clear BK698)
           (try clear HB)
           generalize ((w9.setCell ⟨gb698, 0, none⟩ (.int .i64 ((rd_T26 l0 x13_1).f0))).setCell ⟨gb698, 1, none⟩ (.slice A697_1 ((rd_T26 l0 x13_1).f1).length c697_1)) = w15 at n0_ n1_ ⊢
           have BK698 := n0_
           have HB := n1_
           clear n0_ n1_
           have n0_ := Aq.mk (kQD BK698.out)
           have n1_ := Aq.mk (bQ1 HB.out)
           clear BK698
           clear HB
           have BK698 := n0_
           have HB := n1_
           clear n0_ n1_
           have p700 : 0 ≤ (0 : Int) := (by omega)
           have q700 : 0 < (l0.length : Int) := of_decide_eq_true (by first | (with_reducible assumption) | assumption)
           obtain ⟨ad700, A700_1, c700_1, e700, hx700_0, hx700_1, hl700_1, hi700_1⟩ := at_T26 HR0.out 0 p700 q700
           have hw700_1 := hx700_1
           (try rw [show ((0 : Int)).toNat = 0 from rfl] at hw700_1)
           (try rw [show 0 * 2 = 0 from rfl] at hw700_1)
           (try rw [Addr.add_zero'] at hw700_1)
           have hw700_0 := hx700_0
           (try rw [show ((0 : Int)).toNat = 0 from rfl] at hw700_0)
           (try rw [show 0 * 2 = 0 from rfl] at hw700_0)
           (try rw [Addr.add_zero'] at hw700_0)
           obtain rfl : ad697 = ad700 := (by injection e700)
           have qi700 : (0 < l0.length) = True := eq_true (by omega)
           (try rw [show ((0 : Int)).toNat = 0 from rfl] at hx700_0)
           (try rw [show 0 * 2 = 0 from rfl] at hx700_0)
           (try rw [Addr.add_zero'] at hx700_0)
           (try rw [show ((0 : Int)).toNat = 0 from rfl] at hx700_1)
           (try rw [show 0 * 2 = 0 from rfl] at hx700_1)
           (try rw [Addr.add_zero'] at hx700_1)
           replace hx700_0 := (HB.out.cell (World.block_lt_of_cell? w _ hx700_0)).trans hx700_0
           replace hx700_1 := (HB.out.cell (World.block_lt_of_cell? w _ hx700_1)).trans hx700_1
           have HR700_1 := Aq.mk hi700_1
           have HC700_1 := Aq.mk hl700_1
           clear hi700_1 hl700_1
           replace p700 := eq_true p700
           replace q700 := eq_true q700
           have p701 : 0 ≤ (0 : Int) := (by omega)
           have q701 : 0 < (l0.length : Int) := of_decide_eq_true (by first | (with_reducible assumption) | assumption)
           obtain ⟨ad701, A701_1, c701_1, e701, hx701_0, hx701_1, hl701_1, hi701_1⟩ := at_T26 HR0.out 0 p701 q701
           have hw701_1 := hx701_1
           (try rw [show ((0 : Int)).toNat = 0 from rfl] at hw701_1)
           (try rw [show 0 * 2 = 0 from rfl] at hw701_1)
           (try rw [Addr.add_zero'] at hw701_1)
           have hw701_0 := hx701_0
           (try rw [show ((0 : Int)).toNat = 0 from rfl] at hw701_0)
           (try rw [show 0 * 2 = 0 from rfl] at hw701_0)
           (try rw [Addr.add_zero'] at hw701_0)
           obtain rfl : ad697 = ad701 := (by injection e701)
           have qi701 : (0 < l0.length) = True := eq_true (by omega)
           (try rw [show ((0 : Int)).toNat = 0 from rfl] at hx701_0)
           (try rw [show 0 * 2 = 0 from rfl] at hx701_0)
           (try rw [Addr.add_zero'] at hx701_0)
           (try rw [show ((0 : Int)).toNat = 0 from rfl] at hx701_1)
           (try rw [show 0 * 2 = 0 from rfl] at hx701_1)
           (try rw [Addr.add_zero'] at hx701_1)
           replace hx701_0 := (HB.out.cell (World.block_lt_of_cell? w _ hx701_0)).trans hx701_0
           replace hx701_1 := (HB.out.cell (World.block_lt_of_cell? w _ hx701_1)).trans hx701_1
           have HR701_1 := Aq.mk hi701_1
           have HC701_1 := Aq.mk hl701_1
           clear hi701_1 hl701_1
           replace p701 := eq_true p701
           replace q701 := eq_true q701
           have ea_ := Option.some.inj (hx700_1.symm.trans hx701_1)
           injection ea_ with ea_ en_ ec_
           subst ea_
           subst ec_
           clear en_
           refine start_ (n := 23) (S := fun w' => w'.cell? ⟨gb698, 0, none⟩ = some (.int .i64 ((rd_T26 l0 x13_1).f0)) ∧ w'.cell? ⟨gb698, 1, none⟩ = some (.slice A697_1 ((rd_T26 l0 x13_1).f1).length c697_1) ∧ w'.cell? ad697 = some (.int .i64 ((rd_T26 l0 0).f0)) ∧ w'.cell? ⟨ad697.block, ad697.off + 1, none⟩ = some (.slice A700_1 ((rd_T26 l0 0).f1).length c700_1) ∧ w'.cell? ad697 = some (.int .i64 ((rd_T26 l0 0).f0)) ∧ w'.cell? ⟨ad697.block, ad697.off + 1, none⟩ = some (.slice A700_1 ((rd_T26 l0 0).f1).length c700_1)) (ds := []) #[false, false, false, false, false, false, false, false, false, false, false, false, false, false, false, false, false, false, false, false, false, false, false] (by kernel_rfl) rfl rfl ⟨(kQC BK698.out 0).trans rfl, (kQC BK698.out 1).trans rfl, ((HB.out.cell (World.block_lt_of_cell? w _ hw700_0)).trans hw700_0), ((HB.out.cell (World.block_lt_of_cell? w _ hw700_1)).trans hw700_1), ((HB.out.cell (World.block_lt_of_cell? w _ hw701_0)).trans hw701_0), ((HB.out.cell (World.block_lt_of_cell? w _ hw701_1)).trans hw701_1)⟩ (fun hHeld => ?_); refine with_tabW impl_ValidSpaces.tab6 impl_ValidSpaces.bits6 (fun HT_ HW_ => ?_)
           generalize w15.drew = w16 at BK698 HB HR700_1 HR701_1 hx700_0 hx700_1 hx701_0 hx701_1 hHeld ⊢
           refine take_ (i := 0) (N := some 18) (v := ?_) (a' := ?_) #[true, false, false, false, false, false, false, false, false, false, false, false, false, false, false, false, false, false, false, false, false, false, false] rfl rfl (take_ofW HT_.out HW_.out (by kernel_rfl)) (fun _ _ _ h => h) (Or.inl ⟨by rfl, ?_⟩) hHeld ?_ ?_
           rotate_left
           ·rintro w' ⟨s0, s1, s2, s3, s4, s5⟩
            go_simp
            with_reducible rfl
           rotate_left
           ·simp only [Act.put, qSa, qSb, qSc, i64_w, i32_w]
            rfl
           refine one_ (i := 1) (N := some 19) #[true, true, false, false, false, false, false, false, false, false, false, false, false, false, false, false, false, false, false, false, false, false, false] rfl rfl (one_of HT_.out (by kernel_rfl)) (by decide) (fun K hK => ?_)
           refine goes_ Try.func75 (by kernel_rfl) rfl #[.agg #[.int .i64 ((rd_T26 l0 x13_1).f0), .slice A697_1 ((rd_T26 l0 x13_1).f1).length c697_1]] (by rfl) rfl rfl (by (try simp only [List.map_toArray, List.map_cons, List.map_nil]); first | done | rfl | (simp only [List.length_drop, List.length_take]; rfl)) ?_
           with_reducible refine (impl_IsSpace.calls k1 ((rd_T26 l0 x13_1).f0) _ _ ((rd_T26 l0 x13_1).f1) true _ ?side1 ?side2 A11.out).mono ?_
           (case side1 => repeat (first | exact (Kd.C_below HR697_1.out HB.out) | (with_reducible refine Kd.CqA ?_ _) | (with_reducible refine Kd.CqN ?_ _) | (with_reducible refine Kd.CqD ?_)))
           (case side2 => exact HC697_1.out)
           rintro e w17 ⟨rfl, hb⟩
           refine ⟨_, rfl, ?_⟩
           have n0_ := Aq.mk (kQB (g := gb698) (o := .cells #[.int .i64 ((rd_T26 l0 x13_1).f0), .slice A697_1 ((rd_T26 l0 x13_1).f1).length c697_1] 26 (0, 0)) (by (with_reducible repeat (first | refine kQN ?_ _ | refine kQD ?_ | refine kQA ?_ _)); exact BK698.out) hb)
           have n1_ := Aq.mk (bQT (by repeat (first | (with_reducible first | exact HB.out | apply bQA | apply bQN | apply bQ1 | refine bQS ?_ GE698.out) | exact HB.out)) hb)
           clear BK698
           clear HB
           have BK698 := n0_
           have HB := n1_
           clear n0_ n1_
           (try clear hb)
           (try clear hb2)
           (try clear hk)
           (try clear hi)
           refine hK.out _ _ ⟨(kQC BK698.out 0).trans rfl, (kQC BK698.out 1).trans rfl, ((HB.out.cell (World.block_lt_of_cell? w _ hw700_0)).trans hw700_0), ((HB.out.cell (World.block_lt_of_cell? w _ hw700_1)).trans hw700_1), ((HB.out.cell (World.block_lt_of_cell? w _ hw701_0)).trans hw701_0), ((HB.out.cell (World.block_lt_of_cell? w _ hw701_1)).trans hw701_1)⟩ (fun hHeld => ?_)
           clear hK K
           refine norm_ (a' := ?_) ?_ ?_
           rotate_left
           ·show Act.put _ (some 19) _ = _
            simp only [Act.put, qSa, qSb, qSc, i64_w, i32_w]
            rfl
           refine pure_ (i := 2) (N := some 20) (v := ?_) (a' := ?_) #[true, true, true, false, false, false, false, false, false, false, false, false, false, false, false, false, false, false, false, false, false, false, false] rfl rfl (any_of HT_.out (by kernel_rfl)) (fun _ _ _ h => h) (Or.inl ⟨by rfl, ?_⟩) ?_ ?_
           rotate_left
           ·intro w'
            go_simp
            with_reducible rfl
           rotate_left
           ·simp only [Act.put, qSa, qSb, qSc, i64_w, i32_w]
            rfl
           refine pure_ (i := 3) (N := some 21) (v := ?_) (a' := ?_) #[true, true, true, true, false, false, false, false, false, false, false, false, false, false, false, false, false, false, false, false, false, false, false] rfl rfl (any_of HT_.out (by kernel_rfl)) (fun _ _ _ h => h) (Or.inl ⟨by rfl, ?_⟩) ?_ ?_
           rotate_left
           ·intro w'
            go_simp
            with_reducible rfl
           rotate_left
           ·simp only [Act.put, qSa, qSb, qSc, i64_w, i32_w]
            rfl
           refine pure_ (i := 4) (N := some 22) (v := ?_) (a' := ?_) #[true, true, true, true, true, false, false, false, false, false, false, false, false, false, false, false, false, false, false, false, false, false, false] rfl rfl (any_of HT_.out (by kernel_rfl)) (fun _ _ _ h => h) (Or.inl ⟨by rfl, ?_⟩) ?_ ?_
           rotate_left
           ·intro w'
            go_simp
            with_reducible rfl
           rotate_left
           ·simp only [Act.put, qSa, qSb, qSc, i64_w, i32_w]
            rfl
           refine pure_ (i := 6) (N := some 24) (v := ?_) (a' := ?_) #[true, true, true, true, true, false, true, false, false, false, false, false, false, false, false, false, false, false, false, false, false, false, false] rfl rfl (any_of HT_.out (by kernel_rfl)) (fun _ _ _ h => h) (Or.inl ⟨by rfl, ?_⟩) ?_ ?_
           rotate_left
           ·intro w'
            go_simp
            with_reducible rfl
           rotate_left
           ·simp only [Act.put, qSa, qSb, qSc, i64_w, i32_w]
            rfl
           refine pure_ (i := 7) (N := some 25) (v := ?_) (a' := ?_) #[true, true, true, true, true, false, true, true, false, false, false, false, false, false, false, false, false, false, false, false, false, false, false] rfl rfl (any_of HT_.out (by kernel_rfl)) (fun _ _ _ h => h) (Or.inl ⟨by rfl, ?_⟩) ?_ ?_
           rotate_left
           ·intro w'
            go_simp
            with_reducible rfl
           rotate_left
           ·simp only [Act.put, qSa, qSb, qSc, i64_w, i32_w]
            rfl
           refine pure_ (i := 8) (N := some 26) (v := ?_) (a' := ?_) #[true, true, true, true, true, false, true, true, true, false, false, false, false, false, false, false, false, false, false, false, false, false, false] rfl rfl (any_of HT_.out (by kernel_rfl)) (fun _ _ _ h => h) (Or.inl ⟨by rfl, ?_⟩) ?_ ?_
           rotate_left
           ·intro w'
            go_simp
            with_reducible rfl
           rotate_left
           ·simp only [Act.put, qSa, qSb, qSc, i64_w, i32_w]
            rfl
           refine take_ (i := 5) (N := some 23) (v := ?_) (a' := ?_) #[true, true, true, true, true, true, true, true, true, false, false, false, false, false, false, false, false, false, false, false, false, false, false] rfl rfl (take_ofW HT_.out HW_.out (by kernel_rfl)) (fun _ _ _ h => h) (Or.inl ⟨by rfl, ?_⟩) hHeld ?_ ?_
           rotate_left
           ·rintro w' ⟨s0, s1, s2, s3, s4, s5⟩
            go_simp
            with_reducible rfl
           rotate_left
           ·simp only [Act.put, qSa, qSb, qSc, i64_w, i32_w]
            rfl
           refine take_ (i := 9) (N := some 27) (v := ?_) (a' := ?_) #[true, true, true, true, true, true, true, true, true, true, false, false, false, false, false, false, false, false, false, false, false, false, false] rfl rfl (take_ofW HT_.out HW_.out (by kernel_rfl)) (fun _ _ _ h => h) (Or.inl ⟨by rfl, ?_⟩) hHeld ?_ ?_
           rotate_left
           ·rintro w' ⟨s0, s1, s2, s3, s4, s5⟩
            go_simp
            with_reducible rfl
           rotate_left
           ·simp only [Act.put, qSa, qSb, qSc, i64_w, i32_w]
            rfl
           refine pure_ (i := 10) (N := some 28) (v := ?_) (a' := ?_) #[true, true, true, true, true, true, true, true, true, true, true, false, false, false, false, false, false, false, false, false, false, false, false] rfl rfl (any_of HT_.out (by kernel_rfl)) (fun _ _ _ h => h) (Or.inl ⟨by rfl, ?_⟩) ?_ ?_
           rotate_left
           ·intro w'
            go_simp
            with_reducible rfl
           rotate_left
           ·simp only [Act.put, qSa, qSb, qSc, i64_w, i32_w]
            rfl
           refine pure_ (i := 11) (N := some 29) (v := ?_) (a' := ?_) #[true, true, true, true, true, true, true, true, true, true, true, true, false, false, false, false, false, false, false, false, false, false, false] rfl rfl (any_of HT_.out (by kernel_rfl)) (fun _ _ _ h => h) (Or.inl ⟨by rfl, ?_⟩) ?_ ?_
           rotate_left
           ·intro w'
            go_simp
            with_reducible rfl
           rotate_left
           ·simp only [Act.put, qSa, qSb, qSc, i64_w, i32_w]
            rfl
           refine pure_ (i := 12) (N := some 30) (v := ?_) (a' := ?_) #[true, true, true, true, true, true, true, true, true, true, true, true, true, false, false, false, false, false, false, false, false, false, false] rfl rfl (any_of HT_.out (by kernel_rfl)) (fun _ _ _ h => h) (Or.inl ⟨by rfl, ?_⟩) ?_ ?_
           rotate_left
           ·intro w'
            go_simp
            with_reducible rfl
           rotate_left
           ·simp only [Act.put, qSa, qSb, qSc, i64_w, i32_w]
            rfl
           refine pure_ (i := 13) (N := some 31) (v := ?_) (a' := ?_) #[true, true, true, true, true, true, true, true, true, true, true, true, true, true, false, false, false, false, false, false, false, false, false] rfl rfl (any_of HT_.out (by kernel_rfl)) (fun _ _ _ h => h) (Or.inl ⟨by rfl, ?_⟩) ?_ ?_
           rotate_left
           ·intro w'
            go_simp
            with_reducible rfl
           rotate_left
           ·simp only [Act.put, qSa, qSb, qSc, i64_w, i32_w]
            rfl
           refine pure_ (i := 16) (N := some 34) (v := ?_) (a' := ?_) #[true, true, true, true, true, true, true, true, true, true, true, true, true, true, false, false, true, false, false, false, false, false, false] rfl rfl (any_of HT_.out (by kernel_rfl)) (fun _ _ _ h => h) (Or.inl ⟨by rfl, ?_⟩) ?_ ?_
           rotate_left
           ·intro w'
            go_simp
            with_reducible rfl
           rotate_left
           ·simp only [Act.put, qSa, qSb, qSc, i64_w, i32_w]
            rfl
           refine pure_ (i := 17) (N := some 35) (v := ?_) (a' := ?_) #[true, true, true, true, true, true, true, true, true, true, true, true, true, true, false, false, true, true, false, false, false, false, false] rfl rfl (any_of HT_.out (by kernel_rfl)) (fun _ _ _ h => h) (Or.inl ⟨by rfl, ?_⟩) ?_ ?_
           rotate_left
           ·intro w'
            go_simp
            with_reducible rfl
           rotate_left
           ·simp only [Act.put, qSa, qSb, qSc, i64_w, i32_w]
            rfl
           refine pure_ (i := 18) (N := some 36) (v := ?_) (a' := ?_) #[true, true, true, true, true, true, true, true, true, true, true, true, true, true, false, false, true, true, true, false, false, false, false] rfl rfl (any_of HT_.out (by kernel_rfl)) (fun _ _ _ h => h) (Or.inl ⟨by rfl, ?_⟩) ?_ ?_
           rotate_left
           ·intro w'
            go_simp
            with_reducible rfl
           rotate_left
           ·simp only [Act.put, qSa, qSb, qSc, i64_w, i32_w]
            rfl
           refine take_ (i := 14) (N := some 32) (v := ?_) (a' := ?_) #[true, true, true, true, true, true, true, true, true, true, true, true, true, true, true, false, true, true, true, false, false, false, false] rfl rfl (take_ofW HT_.out HW_.out (by kernel_rfl)) (fun _ _ _ h => h) (Or.inl ⟨by rfl, ?_⟩) hHeld ?_ ?_
           rotate_left
           ·rintro w' ⟨s0, s1, s2, s3, s4, s5⟩
            go_simp
            with_reducible rfl
           rotate_left
           ·simp only [Act.put, qSa, qSb, qSc, i64_w, i32_w]
            rfl
           refine pure_ (i := 15) (N := some 33) (v := ?_) (a' := ?_) #[true, true, true, true, true, true, true, true, true, true, true, true, true, true, true, true, true, true, true, false, false, false, false] rfl rfl (any_of HT_.out (by kernel_rfl)) (fun _ _ _ h => h) (Or.inl ⟨by rfl, ?_⟩) ?_ ?_
           rotate_left
           ·intro w'
            go_simp
            with_reducible rfl
           rotate_left
           ·simp only [Act.put, qSa, qSb, qSc, i64_w, i32_w]
            rfl
           refine take_ (i := 19) (N := some 37) (v := ?_) (a' := ?_) #[true, true, true, true, true, true, true, true, true, true, true, true, true, true, true, true, true, true, true, true, false, false, false] rfl rfl (take_ofW HT_.out HW_.out (by kernel_rfl)) (fun _ _ _ h => h) (Or.inl ⟨by rfl, ?_⟩) hHeld ?_ ?_
           rotate_left
           ·rintro w' ⟨s0, s1, s2, s3, s4, s5⟩
            go_simp
            with_reducible rfl
           rotate_left
           ·simp only [Act.put, qSa, qSb, qSc, i64_w, i32_w]
            rfl
           refine pure_ (i := 20) (N := some 38) (v := ?_) (a' := ?_) #[true, true, true, true, true, true, true, true, true, true, true, true, true, true, true, true, true, true, true, true, true, false, false] rfl rfl (any_of HT_.out (by kernel_rfl)) (fun _ _ _ h => h) (Or.inl ⟨by rfl, ?_⟩) ?_ ?_
           rotate_left
           ·intro w'
            go_simp
            with_reducible rfl
           rotate_left
           ·simp only [Act.put, qSa, qSb, qSc, i64_w, i32_w]
            rfl
           refine pure_ (i := 21) (N := some 39) (v := ?_) (a' := ?_) #[true, true, true, true, true, true, true, true, true, true, true, true, true, true, true, true, true, true, true, true, true, true, false] rfl rfl (any_of HT_.out (by kernel_rfl)) (fun _ _ _ h => h) (Or.inl ⟨by rfl, ?_⟩) ?_ ?_
           rotate_left
           ·intro w'
            go_simp
            with_reducible rfl
           rotate_left
           ·simp only [Act.put, qSa, qSb, qSc, i64_w, i32_w]
            rfl
           refine pure_ (i := 22) (N := some 40) (v := ?_) (a' := ?_) #[true, true, true, true, true, true, true, true, true, true, true, true, true, true, true, true, true, true, true, true, true, true, true] rfl rfl (any_of HT_.out (by kernel_rfl)) (fun _ _ _ h => h) (Or.inl ⟨by rfl, ?_⟩) ?_ ?_
           rotate_left
           ·intro w'
            go_simp
            with_reducible rfl
           rotate_left
           ·simp only [Act.put, qSa, qSb, qSc, i64_w, i32_w]
            rfl
           refine done_ (done_of HT_.out (by kernel_rfl)) ?_
           try go_wp2
           go_meet
           case rel => exact ⟨_, (((((rd_T26 l0 x13_1).f1).length : Int) != (((rd_T26 l0 0).f1).length : Int))), (by first | rfl | (simp; done) | (simp [*]; done)), H', ⟨by have := HK1.out; first | omega | exact Nat.le_refl _⟩, ⟨by (with_reducible repeat (first | refine kQN ?_ _ | refine kQD ?_ | refine kQA ?_ _)); exact BK698.out⟩, ⟨by repeat (first | (with_reducible first | exact HB.out | apply bQA | apply bQN | apply bQ1 | refine bQS ?_ GE698.out) | exact HB.out)⟩⟩
          ·rw [if_neg c14] at H
           have c14b0 : (((rd_T26 l0 x13_1).f0) == ((rd_T26 l0 0).f0)) = false := beq_eq_false_iff_ne.mpr c14
           have c14b1 : (((rd_T26 l0 x13_1).f0) != ((rd_T26 l0 0).f0)) = true := bne_iff_ne.mpr c14
           have H' := Aq.mk H
           clear H
           try go_wp2
           have n0_ : Aq (((w9.setCell ⟨gb698, 0, none⟩ (.int .i64 ((rd_T26 l0 x13_1).f0))).setCell ⟨gb698, 1, none⟩ (.slice A697_1 ((rd_T26 l0 x13_1).f1).length c697_1)).heap[gb698]? = some (.cells #[.int .i64 ((rd_T26 l0 x13_1).f0), .slice A697_1 ((rd_T26 l0 x13_1).f1).length c697_1] 26 (0, 0))) := ⟨by (with_reducible repeat (first | refine kQN ?_ _ | refine kQD ?_ | refine kQA ?_ _)); refine kQP (cs := #[.int .i64 ((rd_T26 l0 x13_1).f0), .slice none 0 0]) ?_ 1 _ rfl; (with_reducible repeat (first | refine kQN ?_ _ | refine kQD ?_ | refine kQA ?_ _)); refine kQP (cs := #[.int .i64 0, .slice none 0 0]) ?_ 0 _ rfl; (with_reducible repeat (first | refine kQN ?_ _ | refine kQD ?_ | refine kQA ?_ _)); exact BK698.out⟩
           have n1_ : Aq (Below w.heap.size w ((w9.setCell ⟨gb698, 0, none⟩ (.int .i64 ((rd_T26 l0 x13_1).f0))).setCell ⟨gb698, 1, none⟩ (.slice A697_1 ((rd_T26 l0 x13_1).f1).length c697_1))) := ⟨by repeat (first | (with_reducible first | exact HB.out | apply bQA | apply bQN | apply bQ1 | refine bQS ?_ GE698.out) | exact HB.out)⟩
           (try clear BK698)
           (try clear HB)
           generalize ((w9.setCell ⟨gb698, 0, none⟩ (.int .i64 ((rd_T26 l0 x13_1).f0))).setCell ⟨gb698, 1, none⟩ (.slice A697_1 ((rd_T26 l0 x13_1).f1).length c697_1)) = w18 at n0_ n1_ ⊢
           have BK698 := n0_
           have HB := n1_
           clear n0_ n1_
           have n0_ := Aq.mk (kQD BK698.out)
           have n1_ := Aq.mk (bQ1 HB.out)
           clear BK698
           clear HB
           have BK698 := n0_
           have HB := n1_
           clear n0_ n1_
           have p700 : 0 ≤ (0 : Int) := (by omega)
           have q700 : 0 < (l0.length : Int) := of_decide_eq_true (by first | (with_reducible assumption) | assumption)
           obtain ⟨ad700, A700_1, c700_1, e700, hx700_0, hx700_1, hl700_1, hi700_1⟩ := at_T26 HR0.out 0 p700 q700
           have hw700_1 := hx700_1
           (try rw [show ((0 : Int)).toNat = 0 from rfl] at hw700_1)
           (try rw [show 0 * 2 = 0 from rfl] at hw700_1)
           (try rw [Addr.add_zero'] at hw700_1)
           have hw700_0 := hx700_0
           (try rw [show ((0 : Int)).toNat = 0 from rfl] at hw700_0)
           (try rw [show 0 * 2 = 0 from rfl] at hw700_0)
           (try rw [Addr.add_zero'] at hw700_0)
           obtain rfl : ad697 = ad700 := (by injection e700)
           have qi700 : (0 < l0.length) = True := eq_true (by omega)
           (try rw [show ((0 : Int)).toNat = 0 from rfl] at hx700_0)
           (try rw [show 0 * 2 = 0 from rfl] at hx700_0)
           (try rw [Addr.add_zero'] at hx700_0)
           (try rw [show ((0 : Int)).toNat = 0 from rfl] at hx700_1)
           (try rw [show 0 * 2 = 0 from rfl] at hx700_1)
           (try rw [Addr.add_zero'] at hx700_1)
           replace hx700_0 := (HB.out.cell (World.block_lt_of_cell? w _ hx700_0)).trans hx700_0
           replace hx700_1 := (HB.out.cell (World.block_lt_of_cell? w _ hx700_1)).trans hx700_1
           have HR700_1 := Aq.mk hi700_1
           have HC700_1 := Aq.mk hl700_1
           clear hi700_1 hl700_1
           replace p700 := eq_true p700
           replace q700 := eq_true q700
           refine start_ (n := 23) (S := fun w' => w'.cell? ⟨gb698, 0, none⟩ = some (.int .i64 ((rd_T26 l0 x13_1).f0)) ∧ w'.cell? ⟨gb698, 1, none⟩ = some (.slice A697_1 ((rd_T26 l0 x13_1).f1).length c697_1) ∧ w'.cell? ad697 = some (.int .i64 ((rd_T26 l0 0).f0)) ∧ w'.cell? ⟨ad697.block, ad697.off + 1, none⟩ = some (.slice A700_1 ((rd_T26 l0 0).f1).length c700_1)) (ds := []) #[false, false, false, false, false, false, false, false, false, false, false, false, false, false, false, false, false, false, false, false, false, false, false] (by kernel_rfl) rfl rfl ⟨(kQC BK698.out 0).trans rfl, (kQC BK698.out 1).trans rfl, ((HB.out.cell (World.block_lt_of_cell? w _ hw700_0)).trans hw700_0), ((HB.out.cell (World.block_lt_of_cell? w _ hw700_1)).trans hw700_1)⟩ (fun hHeld => ?_); refine with_tabW impl_ValidSpaces.tab6 impl_ValidSpaces.bits6 (fun HT_ HW_ => ?_)
           generalize w18.drew = w19 at BK698 HB HR700_1 hx700_0 hx700_1 hHeld ⊢
           refine take_ (i := 0) (N := some 18) (v := ?_) (a' := ?_) #[true, false, false, false, false, false, false, false, false, false, false, false, false, false, false, false, false, false, false, false, false, false, false] rfl rfl (take_ofW HT_.out HW_.out (by kernel_rfl)) (fun _ _ _ h => h) (Or.inl ⟨by rfl, ?_⟩) hHeld ?_ ?_
           rotate_left
           ·rintro w' ⟨s0, s1, s2, s3⟩
            go_simp
            with_reducible rfl
           rotate_left
           ·simp only [Act.put, qSa, qSb, qSc, i64_w, i32_w]
            rfl
           refine one_ (i := 1) (N := some 19) #[true, true, false, false, false, false, false, false, false, false, false, false, false, false, false, false, false, false, false, false, false, false, false] rfl rfl (one_of HT_.out (by kernel_rfl)) (by decide) (fun K hK => ?_)
           refine goes_ Try.func75 (by kernel_rfl) rfl #[.agg #[.int .i64 ((rd_T26 l0 x13_1).f0), .slice A697_1 ((rd_T26 l0 x13_1).f1).length c697_1]] (by rfl) rfl rfl (by (try simp only [List.map_toArray, List.map_cons, List.map_nil]); first | done | rfl | (simp only [List.length_drop, List.length_take]; rfl)) ?_
           with_reducible refine (impl_IsSpace.calls k1 ((rd_T26 l0 x13_1).f0) _ _ ((rd_T26 l0 x13_1).f1) true _ ?side1 ?side2 A11.out).mono ?_
           (case side1 => repeat (first | exact (Kd.C_below HR697_1.out HB.out) | (with_reducible refine Kd.CqA ?_ _) | (with_reducible refine Kd.CqN ?_ _) | (with_reducible refine Kd.CqD ?_)))
           (case side2 => exact HC697_1.out)
           rintro e w20 ⟨rfl, hb⟩
           refine ⟨_, rfl, ?_⟩
           have n0_ := Aq.mk (kQB (g := gb698) (o := .cells #[.int .i64 ((rd_T26 l0 x13_1).f0), .slice A697_1 ((rd_T26 l0 x13_1).f1).length c697_1] 26 (0, 0)) (by (with_reducible repeat (first | refine kQN ?_ _ | refine kQD ?_ | refine kQA ?_ _)); exact BK698.out) hb)
           have n1_ := Aq.mk (bQT (by repeat (first | (with_reducible first | exact HB.out | apply bQA | apply bQN | apply bQ1 | refine bQS ?_ GE698.out) | exact HB.out)) hb)
           clear BK698
           clear HB
           have BK698 := n0_
           have HB := n1_
           clear n0_ n1_
           (try clear hb)
           (try clear hb2)
           (try clear hk)
           (try clear hi)
           refine hK.out _ _ ⟨(kQC BK698.out 0).trans rfl, (kQC BK698.out 1).trans rfl, ((HB.out.cell (World.block_lt_of_cell? w _ hw700_0)).trans hw700_0), ((HB.out.cell (World.block_lt_of_cell? w _ hw700_1)).trans hw700_1)⟩ (fun hHeld => ?_)
           clear hK K
           refine norm_ (a' := ?_) ?_ ?_
           rotate_left
           ·show Act.put _ (some 19) _ = _
            simp only [Act.put, qSa, qSb, qSc, i64_w, i32_w]
            rfl
           refine pure_ (i := 2) (N := some 20) (v := ?_) (a' := ?_) #[true, true, true, false, false, false, false, false, false, false, false, false, false, false, false, false, false, false, false, false, false, false, false] rfl rfl (any_of HT_.out (by kernel_rfl)) (fun _ _ _ h => h) (Or.inl ⟨by rfl, ?_⟩) ?_ ?_
           rotate_left
           ·intro w'
            go_simp
            with_reducible rfl
           rotate_left
           ·simp only [Act.put, qSa, qSb, qSc, i64_w, i32_w]
            rfl
           refine pure_ (i := 3) (N := some 21) (v := ?_) (a' := ?_) #[true, true, true, true, false, false, false, false, false, false, false, false, false, false, false, false, false, false, false, false, false, false, false] rfl rfl (any_of HT_.out (by kernel_rfl)) (fun _ _ _ h => h) (Or.inl ⟨by rfl, ?_⟩) ?_ ?_
           rotate_left
           ·intro w'
            go_simp
            with_reducible rfl
           rotate_left
           ·simp only [Act.put, qSa, qSb, qSc, i64_w, i32_w]
            rfl
           refine pure_ (i := 4) (N := some 22) (v := ?_) (a' := ?_) #[true, true, true, true, true, false, false, false, false, false, false, false, false, false, false, false, false, false, false, false, false, false, false] rfl rfl (any_of HT_.out (by kernel_rfl)) (fun _ _ _ h => h) (Or.inl ⟨by rfl, ?_⟩) ?_ ?_
           rotate_left
           ·intro w'
            go_simp
            with_reducible rfl
           rotate_left
           ·simp only [Act.put, qSa, qSb, qSc, i64_w, i32_w]
            rfl
           refine pure_ (i := 6) (N := some 24) (v := ?_) (a' := ?_) #[true, true, true, true, true, false, true, false, false, false, false, false, false, false, false, false, false, false, false, false, false, false, false] rfl rfl (any_of HT_.out (by kernel_rfl)) (fun _ _ _ h => h) (Or.inl ⟨by rfl, ?_⟩) ?_ ?_
           rotate_left
           ·intro w'
            go_simp
            with_reducible rfl
           rotate_left
           ·simp only [Act.put, qSa, qSb, qSc, i64_w, i32_w]
            rfl
           refine pure_ (i := 7) (N := some 25) (v := ?_) (a' := ?_) #[true, true, true, true, true, false, true, true, false, false, false, false, false, false, false, false, false, false, false, false, false, false, false] rfl rfl (any_of HT_.out (by kernel_rfl)) (fun _ _ _ h => h) (Or.inl ⟨by rfl, ?_⟩) ?_ ?_
           rotate_left
           ·intro w'
            go_simp
            with_reducible rfl
           rotate_left
           ·simp only [Act.put, qSa, qSb, qSc, i64_w, i32_w]
            rfl
           refine pure_ (i := 8) (N := some 26) (v := ?_) (a' := ?_) #[true, true, true, true, true, false, true, true, true, false, false, false, false, false, false, false, false, false, false, false, false, false, false] rfl rfl (any_of HT_.out (by kernel_rfl)) (fun _ _ _ h => h) (Or.inl ⟨by rfl, ?_⟩) ?_ ?_
           rotate_left
           ·intro w'
            go_simp
            with_reducible rfl
           rotate_left
           ·simp only [Act.put, qSa, qSb, qSc, i64_w, i32_w]
            rfl
           refine take_ (i := 5) (N := some 23) (v := ?_) (a' := ?_) #[true, true, true, true, true, true, true, true, true, false, false, false, false, false, false, false, false, false, false, false, false, false, false] rfl rfl (take_ofW HT_.out HW_.out (by kernel_rfl)) (fun _ _ _ h => h) (Or.inl ⟨by rfl, ?_⟩) hHeld ?_ ?_
           rotate_left
           ·rintro w' ⟨s0, s1, s2, s3⟩
            go_simp
            with_reducible rfl
           rotate_left
           ·simp only [Act.put, qSa, qSb, qSc, i64_w, i32_w]
            rfl
           refine take_ (i := 9) (N := some 27) (v := ?_) (a' := ?_) #[true, true, true, true, true, true, true, true, true, true, false, false, false, false, false, false, false, false, false, false, false, false, false] rfl rfl (take_ofW HT_.out HW_.out (by kernel_rfl)) (fun _ _ _ h => h) (Or.inl ⟨by rfl, ?_⟩) hHeld ?_ ?_
           rotate_left
           ·rintro w' ⟨s0, s1, s2, s3⟩
            go_simp
            with_reducible rfl
           rotate_left
           ·simp only [Act.put, qSa, qSb, qSc, i64_w, i32_w]
            rfl
           refine pure_ (i := 10) (N := some 28) (v := ?_) (a' := ?_) #[true, true, true, true, true, true, true, true, true, true, true, false, false, false, false, false, false, false, false, false, false, false, false] rfl rfl (any_of HT_.out (by kernel_rfl)) (fun _ _ _ h => h) (Or.inl ⟨by rfl, ?_⟩) ?_ ?_
           rotate_left
           ·intro w'
            go_simp
            with_reducible rfl
           rotate_left
           ·simp only [Act.put, qSa, qSb, qSc, i64_w, i32_w]
            rfl
           refine pure_ (i := 11) (N := some 29) (v := ?_) (a' := ?_) #[true, true, true, true, true, true, true, true, true, true, true, true, false, false, false, false, false, false, false, false, false, false, false] rfl rfl (any_of HT_.out (by kernel_rfl)) (fun _ _ _ h => h) (Or.inl ⟨by rfl, ?_⟩) ?_ ?_
           rotate_left
           ·intro w'
            go_simp
            with_reducible rfl
           rotate_left
           ·simp only [Act.put, qSa, qSb, qSc, i64_w, i32_w]
            rfl
           refine pure_ (i := 12) (N := some 30) (v := ?_) (a' := ?_) #[true, true, true, true, true, true, true, true, true, true, true, true, true, false, false, false, false, false, false, false, false, false, false] rfl rfl (any_of HT_.out (by kernel_rfl)) (fun _ _ _ h => h) (Or.inl ⟨by rfl, ?_⟩) ?_ ?_
           rotate_left
           ·intro w'
            go_simp
            with_reducible rfl
           rotate_left
           ·simp only [Act.put, qSa, qSb, qSc, i64_w, i32_w]
            rfl
           refine pure_ (i := 13) (N := some 31) (v := undef) (a' := ?_) #[true, true, true, true, true, true, true, true, true, true, true, true, true, true, false, false, false, false, false, false, false, false, false] rfl rfl (any_of HT_.out (by kernel_rfl)) (fun _ _ _ h => h) (Or.inr ⟨by rfl, rfl⟩) ?_ ?_
           rotate_left
           ·simp only [Act.put, qSa, qSb, qSc, i64_w, i32_w]
            rfl
           refine pure_ (i := 14) (N := some 32) (v := undef) (a' := ?_) #[true, true, true, true, true, true, true, true, true, true, true, true, true, true, true, false, false, false, false, false, false, false, false] rfl rfl (any_of HT_.out (by kernel_rfl)) (fun _ _ _ h => h) (Or.inr ⟨by rfl, rfl⟩) ?_ ?_
           rotate_left
           ·simp only [Act.put, qSa, qSb, qSc, i64_w, i32_w]
            rfl
           refine pure_ (i := 15) (N := some 33) (v := undef) (a' := ?_) #[true, true, true, true, true, true, true, true, true, true, true, true, true, true, true, true, false, false, false, false, false, false, false] rfl rfl (any_of HT_.out (by kernel_rfl)) (fun _ _ _ h => h) (Or.inr ⟨by rfl, rfl⟩) ?_ ?_
           rotate_left
           ·simp only [Act.put, qSa, qSb, qSc, i64_w, i32_w]
            rfl
           refine pure_ (i := 16) (N := some 34) (v := undef) (a' := ?_) #[true, true, true, true, true, true, true, true, true, true, true, true, true, true, true, true, true, false, false, false, false, false, false] rfl rfl (any_of HT_.out (by kernel_rfl)) (fun _ _ _ h => h) (Or.inr ⟨by rfl, rfl⟩) ?_ ?_
           rotate_left
           ·simp only [Act.put, qSa, qSb, qSc, i64_w, i32_w]
            rfl
           refine pure_ (i := 17) (N := some 35) (v := undef) (a' := ?_) #[true, true, true, true, true, true, true, true, true, true, true, true, true, true, true, true, true, true, false, false, false, false, false] rfl rfl (any_of HT_.out (by kernel_rfl)) (fun _ _ _ h => h) (Or.inr ⟨by rfl, rfl⟩) ?_ ?_
           rotate_left
           ·simp only [Act.put, qSa, qSb, qSc, i64_w, i32_w]
            rfl
           refine pure_ (i := 18) (N := some 36) (v := undef) (a' := ?_) #[true, true, true, true, true, true, true, true, true, true, true, true, true, true, true, true, true, true, true, false, false, false, false] rfl rfl (any_of HT_.out (by kernel_rfl)) (fun _ _ _ h => h) (Or.inr ⟨by rfl, rfl⟩) ?_ ?_
           rotate_left
           ·simp only [Act.put, qSa, qSb, qSc, i64_w, i32_w]
            rfl
           refine pure_ (i := 19) (N := some 37) (v := undef) (a' := ?_) #[true, true, true, true, true, true, true, true, true, true, true, true, true, true, true, true, true, true, true, true, false, false, false] rfl rfl (any_of HT_.out (by kernel_rfl)) (fun _ _ _ h => h) (Or.inr ⟨by rfl, rfl⟩) ?_ ?_
           rotate_left
           ·simp only [Act.put, qSa, qSb, qSc, i64_w, i32_w]
            rfl
           refine pure_ (i := 20) (N := some 38) (v := undef) (a' := ?_) #[true, true, true, true, true, true, true, true, true, true, true, true, true, true, true, true, true, true, true, true, true, false, false] rfl rfl (any_of HT_.out (by kernel_rfl)) (fun _ _ _ h => h) (Or.inr ⟨by rfl, rfl⟩) ?_ ?_
           rotate_left
           ·simp only [Act.put, qSa, qSb, qSc, i64_w, i32_w]
            rfl
           refine pure_ (i := 21) (N := some 39) (v := undef) (a' := ?_) #[true, true, true, true, true, true, true, true, true, true, true, true, true, true, true, true, true, true, true, true, true, true, false] rfl rfl (any_of HT_.out (by kernel_rfl)) (fun _ _ _ h => h) (Or.inr ⟨by rfl, rfl⟩) ?_ ?_
           rotate_left
           ·simp only [Act.put, qSa, qSb, qSc, i64_w, i32_w]
            rfl
           refine pure_ (i := 22) (N := some 40) (v := ?_) (a' := ?_) #[true, true, true, true, true, true, true, true, true, true, true, true, true, true, true, true, true, true, true, true, true, true, true] rfl rfl (any_of HT_.out (by kernel_rfl)) (fun _ _ _ h => h) (Or.inl ⟨by rfl, ?_⟩) ?_ ?_
           rotate_left
           ·intro w'
            go_simp
            with_reducible rfl
           rotate_left
           ·simp only [Act.put, qSa, qSb, qSc, i64_w, i32_w]
            rfl
           refine done_ (done_of HT_.out (by kernel_rfl)) ?_
           try go_wp2
           go_meet
           case rel => exact ⟨_, (true), (by first | rfl | (simp; done) | (simp [*]; done)), H', ⟨by have := HK1.out; first | omega | exact Nat.le_refl _⟩, ⟨by (with_reducible repeat (first | refine kQN ?_ _ | refine kQD ?_ | refine kQA ?_ _)); exact BK698.out⟩, ⟨by repeat (first | (with_reducible first | exact HB.out | apply bQA | apply bQN | apply bQ1 | refine bQS ?_ GE698.out) | exact HB.out)⟩⟩
         ·rw [if_neg c13] at H
          exact absurd H (by simp)
        ·replace c12 := Bool.eq_false_iff.mpr c12
         subst c12
         have H1 : (impl_ValidSpaces.j1 k1 l0 x13_1 l0 (l0.length : Int) x13_1 true ((rd_T26 l0 x13_1).f0) ((rd_T26 l0 x13_1).f1)) = some r := by rw [if_neg (show ¬ (false = true) by decide)] at H; exact H
         clear H
         have H := H1
         clear H1
         have H' := Aq.mk H
         clear H
         try go_wp2
         have n0_ : Aq (((w9.setCell ⟨gb698, 0, none⟩ (.int .i64 ((rd_T26 l0 x13_1).f0))).setCell ⟨gb698, 1, none⟩ (.slice A697_1 ((rd_T26 l0 x13_1).f1).length c697_1)).heap[gb698]? = some (.cells #[.int .i64 ((rd_T26 l0 x13_1).f0), .slice A697_1 ((rd_T26 l0 x13_1).f1).length c697_1] 26 (0, 0))) := ⟨by (with_reducible repeat (first | refine kQN ?_ _ | refine kQD ?_ | refine kQA ?_ _)); refine kQP (cs := #[.int .i64 ((rd_T26 l0 x13_1).f0), .slice none 0 0]) ?_ 1 _ rfl; (with_reducible repeat (first | refine kQN ?_ _ | refine kQD ?_ | refine kQA ?_ _)); refine kQP (cs := #[.int .i64 0, .slice none 0 0]) ?_ 0 _ rfl; (with_reducible repeat (first | refine kQN ?_ _ | refine kQD ?_ | refine kQA ?_ _)); exact BK698.out⟩
         have n1_ : Aq (Below w.heap.size w ((w9.setCell ⟨gb698, 0, none⟩ (.int .i64 ((rd_T26 l0 x13_1).f0))).setCell ⟨gb698, 1, none⟩ (.slice A697_1 ((rd_T26 l0 x13_1).f1).length c697_1))) := ⟨by repeat (first | (with_reducible first | exact HB.out | apply bQA | apply bQN | apply bQ1 | refine bQS ?_ GE698.out) | exact HB.out)⟩
         (try clear BK698)
         (try clear HB)
         generalize ((w9.setCell ⟨gb698, 0, none⟩ (.int .i64 ((rd_T26 l0 x13_1).f0))).setCell ⟨gb698, 1, none⟩ (.slice A697_1 ((rd_T26 l0 x13_1).f1).length c697_1)) = w21 at n0_ n1_ ⊢
         have BK698 := n0_
         have HB := n1_
         clear n0_ n1_
         have n0_ := Aq.mk (kQD BK698.out)
         have n1_ := Aq.mk (bQ1 HB.out)
         clear BK698
         clear HB
         have BK698 := n0_
         have HB := n1_
         clear n0_ n1_
         refine start_ (n := 23) (S := fun w' => w'.cell? ⟨gb698, 0, none⟩ = some (.int .i64 ((rd_T26 l0 x13_1).f0)) ∧ w'.cell? ⟨gb698, 1, none⟩ = some (.slice A697_1 ((rd_T26 l0 x13_1).f1).length c697_1)) (ds := []) #[false, false, false, false, false, false, false, false, false, false, false, false, false, false, false, false, false, false, false, false, false, false, false] (by kernel_rfl) rfl rfl ⟨(kQC BK698.out 0).trans rfl, (kQC BK698.out 1).trans rfl⟩ (fun hHeld => ?_); refine with_tabW impl_ValidSpaces.tab6 impl_ValidSpaces.bits6 (fun HT_ HW_ => ?_)
         generalize w21.drew = w22 at BK698 HB hHeld ⊢
         refine take_ (i := 0) (N := some 18) (v := ?_) (a' := ?_) #[true, false, false, false, false, false, false, false, false, false, false, false, false, false, false, false, false, false, false, false, false, false, false] rfl rfl (take_ofW HT_.out HW_.out (by kernel_rfl)) (fun _ _ _ h => h) (Or.inl ⟨by rfl, ?_⟩) hHeld ?_ ?_
         rotate_left
         ·rintro w' ⟨s0, s1⟩
          go_simp
          with_reducible rfl
         rotate_left
         ·simp only [Act.put, qSa, qSb, qSc, i64_w, i32_w]
          rfl
         refine one_ (i := 1) (N := some 19) #[true, true, false, false, false, false, false, false, false, false, false, false, false, false, false, false, false, false, false, false, false, false, false] rfl rfl (one_of HT_.out (by kernel_rfl)) (by decide) (fun K hK => ?_)
         refine goes_ Try.func75 (by kernel_rfl) rfl #[.agg #[.int .i64 ((rd_T26 l0 x13_1).f0), .slice A697_1 ((rd_T26 l0 x13_1).f1).length c697_1]] (by rfl) rfl rfl (by (try simp only [List.map_toArray, List.map_cons, List.map_nil]); first | done | rfl | (simp only [List.length_drop, List.length_take]; rfl)) ?_
         with_reducible refine (impl_IsSpace.calls k1 ((rd_T26 l0 x13_1).f0) _ _ ((rd_T26 l0 x13_1).f1) false _ ?side1 ?side2 A11.out).mono ?_
         (case side1 => repeat (first | exact (Kd.C_below HR697_1.out HB.out) | (with_reducible refine Kd.CqA ?_ _) | (with_reducible refine Kd.CqN ?_ _) | (with_reducible refine Kd.CqD ?_)))
         (case side2 => exact HC697_1.out)
         rintro e w23 ⟨rfl, hb⟩
         refine ⟨_, rfl, ?_⟩
         have n0_ := Aq.mk (kQB (g := gb698) (o := .cells #[.int .i64 ((rd_T26 l0 x13_1).f0), .slice A697_1 ((rd_T26 l0 x13_1).f1).length c697_1] 26 (0, 0)) (by (with_reducible repeat (first | refine kQN ?_ _ | refine kQD ?_ | refine kQA ?_ _)); exact BK698.out) hb)
         have n1_ := Aq.mk (bQT (by repeat (first | (with_reducible first | exact HB.out | apply bQA | apply bQN | apply bQ1 | refine bQS ?_ GE698.out) | exact HB.out)) hb)
         clear BK698
         clear HB
         have BK698 := n0_
         have HB := n1_
         clear n0_ n1_
         (try clear hb)
         (try clear hb2)
         (try clear hk)
         (try clear hi)
         refine hK.out _ _ ⟨(kQC BK698.out 0).trans rfl, (kQC BK698.out 1).trans rfl⟩ (fun hHeld => ?_)
         clear hK K
         refine norm_ (a' := ?_) ?_ ?_
         rotate_left
         ·show Act.put _ (some 19) _ = _
          simp only [Act.put, qSa, qSb, qSc, i64_w, i32_w]
          rfl
         refine pure_ (i := 2) (N := some 20) (v := ?_) (a' := ?_) #[true, true, true, false, false, false, false, false, false, false, false, false, false, false, false, false, false, false, false, false, false, false, false] rfl rfl (any_of HT_.out (by kernel_rfl)) (fun _ _ _ h => h) (Or.inl ⟨by rfl, ?_⟩) ?_ ?_
         rotate_left
         ·intro w'
          go_simp
          with_reducible rfl
         rotate_left
         ·simp only [Act.put, qSa, qSb, qSc, i64_w, i32_w]
          rfl
         refine pure_ (i := 3) (N := some 21) (v := ?_) (a' := ?_) #[true, true, true, true, false, false, false, false, false, false, false, false, false, false, false, false, false, false, false, false, false, false, false] rfl rfl (any_of HT_.out (by kernel_rfl)) (fun _ _ _ h => h) (Or.inl ⟨by rfl, ?_⟩) ?_ ?_
         rotate_left
         ·intro w'
          go_simp
          with_reducible rfl
         rotate_left
         ·simp only [Act.put, qSa, qSb, qSc, i64_w, i32_w]
          rfl
         refine pure_ (i := 4) (N := some 22) (v := undef) (a' := ?_) #[true, true, true, true, true, false, false, false, false, false, false, false, false, false, false, false, false, false, false, false, false, false, false] rfl rfl (any_of HT_.out (by kernel_rfl)) (fun _ _ _ h => h) (Or.inr ⟨by rfl, rfl⟩) ?_ ?_
         rotate_left
         ·simp only [Act.put, qSa, qSb, qSc, i64_w, i32_w]
          rfl
         refine pure_ (i := 5) (N := some 23) (v := undef) (a' := ?_) #[true, true, true, true, true, true, false, false, false, false, false, false, false, false, false, false, false, false, false, false, false, false, false] rfl rfl (any_of HT_.out (by kernel_rfl)) (fun _ _ _ h => h) (Or.inr ⟨by rfl, rfl⟩) ?_ ?_
         rotate_left
         ·simp only [Act.put, qSa, qSb, qSc, i64_w, i32_w]
          rfl
         refine pure_ (i := 6) (N := some 24) (v := undef) (a' := ?_) #[true, true, true, true, true, true, true, false, false, false, false, false, false, false, false, false, false, false, false, false, false, false, false] rfl rfl (any_of HT_.out (by kernel_rfl)) (fun _ _ _ h => h) (Or.inr ⟨by rfl, rfl⟩) ?_ ?_
         rotate_left
         ·simp only [Act.put, qSa, qSb, qSc, i64_w, i32_w]
          rfl
         refine pure_ (i := 7) (N := some 25) (v := undef) (a' := ?_) #[true, true, true, true, true, true, true, true, false, false, false, false, false, false, false, false, false, false, false, false, false, false, false] rfl rfl (any_of HT_.out (by kernel_rfl)) (fun _ _ _ h => h) (Or.inr ⟨by rfl, rfl⟩) ?_ ?_
         rotate_left
         ·simp only [Act.put, qSa, qSb, qSc, i64_w, i32_w]
          rfl
         refine pure_ (i := 8) (N := some 26) (v := undef) (a' := ?_) #[true, true, true, true, true, true, true, true, true, false, false, false, false, false, false, false, false, false, false, false, false, false, false] rfl rfl (any_of HT_.out (by kernel_rfl)) (fun _ _ _ h => h) (Or.inr ⟨by rfl, rfl⟩) ?_ ?_
         rotate_left
         ·simp only [Act.put, qSa, qSb, qSc, i64_w, i32_w]
          rfl
         refine pure_ (i := 9) (N := some 27) (v := undef) (a' := ?_) #[true, true, true, true, true, true, true, true, true, true, false, false, false, false, false, false, false, false, false, false, false, false, false] rfl rfl (any_of HT_.out (by kernel_rfl)) (fun _ _ _ h => h) (Or.inr ⟨by rfl, rfl⟩) ?_ ?_
         rotate_left
         ·simp only [Act.put, qSa, qSb, qSc, i64_w, i32_w]
          rfl
         refine pure_ (i := 10) (N := some 28) (v := undef) (a' := ?_) #[true, true, true, true, true, true, true, true, true, true, true, false, false, false, false, false, false, false, false, false, false, false, false] rfl rfl (any_of HT_.out (by kernel_rfl)) (fun _ _ _ h => h) (Or.inr ⟨by rfl, rfl⟩) ?_ ?_
         rotate_left
         ·simp only [Act.put, qSa, qSb, qSc, i64_w, i32_w]
          rfl
         refine pure_ (i := 11) (N := some 29) (v := ?_) (a' := ?_) #[true, true, true, true, true, true, true, true, true, true, true, true, false, false, false, false, false, false, false, false, false, false, false] rfl rfl (any_of HT_.out (by kernel_rfl)) (fun _ _ _ h => h) (Or.inl ⟨by rfl, ?_⟩) ?_ ?_
         rotate_left
         ·intro w'
          go_simp
          with_reducible rfl
         rotate_left
         ·simp only [Act.put, qSa, qSb, qSc, i64_w, i32_w]
          rfl
         refine pure_ (i := 12) (N := some 30) (v := ?_) (a' := ?_) #[true, true, true, true, true, true, true, true, true, true, true, true, true, false, false, false, false, false, false, false, false, false, false] rfl rfl (any_of HT_.out (by kernel_rfl)) (fun _ _ _ h => h) (Or.inl ⟨by rfl, ?_⟩) ?_ ?_
         rotate_left
         ·intro w'
          go_simp
          with_reducible rfl
         rotate_left
         ·simp only [Act.put, qSa, qSb, qSc, i64_w, i32_w]
          rfl
         refine pure_ (i := 13) (N := some 31) (v := undef) (a' := ?_) #[true, true, true, true, true, true, true, true, true, true, true, true, true, true, false, false, false, false, false, false, false, false, false] rfl rfl (any_of HT_.out (by kernel_rfl)) (fun _ _ _ h => h) (Or.inr ⟨by rfl, rfl⟩) ?_ ?_
         rotate_left
         ·simp only [Act.put, qSa, qSb, qSc, i64_w, i32_w]
          rfl
         refine pure_ (i := 14) (N := some 32) (v := undef) (a' := ?_) #[true, true, true, true, true, true, true, true, true, true, true, true, true, true, true, false, false, false, false, false, false, false, false] rfl rfl (any_of HT_.out (by kernel_rfl)) (fun _ _ _ h => h) (Or.inr ⟨by rfl, rfl⟩) ?_ ?_
         rotate_left
         ·simp only [Act.put, qSa, qSb, qSc, i64_w, i32_w]
          rfl
         refine pure_ (i := 15) (N := some 33) (v := undef) (a' := ?_) #[true, true, true, true, true, true, true, true, true, true, true, true, true, true, true, true, false, false, false, false, false, false, false] rfl rfl (any_of HT_.out (by kernel_rfl)) (fun _ _ _ h => h) (Or.inr ⟨by rfl, rfl⟩) ?_ ?_
         rotate_left
         ·simp only [Act.put, qSa, qSb, qSc, i64_w, i32_w]
          rfl
         refine pure_ (i := 16) (N := some 34) (v := undef) (a' := ?_) #[true, true, true, true, true, true, true, true, true, true, true, true, true, true, true, true, true, false, false, false, false, false, false] rfl rfl (any_of HT_.out (by kernel_rfl)) (fun _ _ _ h => h) (Or.inr ⟨by rfl, rfl⟩) ?_ ?_
         rotate_left
         ·simp only [Act.put, qSa, qSb, qSc, i64_w, i32_w]
          rfl
         refine pure_ (i := 17) (N := some 35) (v := undef) (a' := ?_) #[true, true, true, true, true, true, true, true, true, true, true, true, true, true, true, true, true, true, false, false, false, false, false] rfl rfl (any_of HT_.out (by kernel_rfl)) (fun _ _ _ h => h) (Or.inr ⟨by rfl, rfl⟩) ?_ ?_
         rotate_left
         ·simp only [Act.put, qSa, qSb, qSc, i64_w, i32_w]
          rfl
         refine pure_ (i := 18) (N := some 36) (v := undef) (a' := ?_) #[true, true, true, true, true, true, true, true, true, true, true, true, true, true, true, true, true, true, true, false, false, false, false] rfl rfl (any_of HT_.out (by kernel_rfl)) (fun _ _ _ h => h) (Or.inr ⟨by rfl, rfl⟩) ?_ ?_
         rotate_left
         ·simp only [Act.put, qSa, qSb, qSc, i64_w, i32_w]
          rfl
         refine pure_ (i := 19) (N := some 37) (v := undef) (a' := ?_) #[true, true, true, true, true, true, true, true, true, true, true, true, true, true, true, true, true, true, true, true, false, false, false] rfl rfl (any_of HT_.out (by kernel_rfl)) (fun _ _ _ h => h) (Or.inr ⟨by rfl, rfl⟩) ?_ ?_
         rotate_left
         ·simp only [Act.put, qSa, qSb, qSc, i64_w, i32_w]
          rfl
         refine pure_ (i := 20) (N := some 38) (v := undef) (a' := ?_) #[true, true, true, true, true, true, true, true, true, true, true, true, true, true, true, true, true, true, true, true, true, false, false] rfl rfl (any_of HT_.out (by kernel_rfl)) (fun _ _ _ h => h) (Or.inr ⟨by rfl, rfl⟩) ?_ ?_
         rotate_left
         ·simp only [Act.put, qSa, qSb, qSc, i64_w, i32_w]
          rfl
         refine pure_ (i := 21) (N := some 39) (v := undef) (a' := ?_) #[true, true, true, true, true, true, true, true, true, true, true, true, true, true, true, true, true, true, true, true, true, true, false] rfl rfl (any_of HT_.out (by kernel_rfl)) (fun _ _ _ h => h) (Or.inr ⟨by rfl, rfl⟩) ?_ ?_
         rotate_left
         ·simp only [Act.put, qSa, qSb, qSc, i64_w, i32_w]
          rfl
         refine pure_ (i := 22) (N := some 40) (v := ?_) (a' := ?_) #[true, true, true, true, true, true, true, true, true, true, true, true, true, true, true, true, true, true, true, true, true, true, true] rfl rfl (any_of HT_.out (by kernel_rfl)) (fun _ _ _ h => h) (Or.inl ⟨by rfl, ?_⟩) ?_ ?_
         rotate_left
         ·intro w'
          go_simp
          with_reducible rfl
         rotate_left
         ·simp only [Act.put, qSa, qSb, qSc, i64_w, i32_w]
          rfl
         refine done_ (done_of HT_.out (by kernel_rfl)) ?_
         try go_wp2
         go_meet
         case rel => exact ⟨_, (true), (by first | rfl | (simp; done) | (simp [*]; done)), H', ⟨by have := HK1.out; first | omega | exact Nat.le_refl _⟩, ⟨by (with_reducible repeat (first | refine kQN ?_ _ | refine kQD ?_ | refine kQA ?_ _)); exact BK698.out⟩, ⟨by repeat (first | (with_reducible first | exact HB.out | apply bQA | apply bQN | apply bQ1 | refine bQS ?_ GE698.out) | exact HB.out)⟩⟩
       case rest =>
        clear HC8
        try clear c1
        try clear p2
        try clear c6
        try clear c7
        try clear p7
        try clear q7
        try clear hx7
        try clear qi7
        try clear c12
        try clear c13
        try clear c14
        try clear c14b0
        try clear c14b1
        try clear hx700_0
        try clear hx700_1
        try clear hx701_0
        try clear hx701_1
        try clear p700
        try clear q700
        obtain ⟨kq, x40_7, rfl, HA, HJ7, BK698, HB⟩ := hcut
        cases kq with
        | zero => exact absurd HA.out (by simp [impl_ValidSpaces.j1])
        | succ kj7 =>
         have H := HA.out
         clear HA
         simp only [impl_ValidSpaces.j1] at H
         by_cases c24 : x40_7 = true
         ·subst c24
          have H1 : (some false) = some r := by rw [if_pos rfl] at H; exact H
          clear H
          have H := H1
          clear H1
          obtain rfl := Option.some.inj H
          go_wp2
          go_ret
          exact ⟨by first | rfl | (simp [errW_none, errW_some] <;> rfl) | (simp [*, errW_none, errW_some] <;> rfl), by repeat (first | (with_reducible first | exact HB.out | apply bQA | apply bQN | apply bQ1 | refine bQS ?_ GE698.out) | exact HB.out)⟩
         ·replace c24 := Bool.eq_false_iff.mpr c24
          subst c24
          have H1 : (if 0 ≤ x13_1 then (if x13_1 ≤ (l0.length : Int) then ((some (l0.take (x13_1 : Int).toNat : List (S26))).bind fun y702 => (impl_ValidSpaces.l1 kj7 l0 l0 (l0.length : Int) x13_1 y702 (y702.length : Int) 0 ((rd_T26 l0 x13_1).f0) ((rd_T26 l0 x13_1).f1))) else (none)) else (none)) = some r := by rw [if_neg (show ¬ (false = true) by decide)] at H; exact H
          clear H
          have H := H1
          clear H1
          by_cases c25 : 0 ≤ x13_1
          ·rw [if_pos c25] at H
           have c25b0 := eq_true c25
           have c25b1 : decide (0 ≤ x13_1) = true := decide_eq_true c25
           clear c25
           by_cases c26 : x13_1 ≤ (l0.length : Int)
           ·rw [if_pos c26] at H
            have c26b0 := eq_true c26
            have c26b1 : decide (x13_1 ≤ (l0.length : Int)) = true := decide_eq_true c26
            clear c26
            obtain ⟨y702, hy702⟩ : ∃ y_ : List (S26), y_ = (l0.take (x13_1 : Int).toNat) := ⟨_, rfl⟩
            replace H : (impl_ValidSpaces.l1 kj7 l0 l0 (l0.length : Int) x13_1 y702 (y702.length : Int) 0 ((rd_T26 l0 x13_1).f0) ((rd_T26 l0 x13_1).f1)) = some r := by first | (rw [hy702]; with_reducible exact H) | (have H2_ := (Option.bind_some _ _).symm.trans H; rw [hy702]; with_reducible exact H2_) | (have H2_ := (Option.bind_some _ _).symm.trans H; with_reducible exact H2_) | with_reducible exact H | (rw [hy702]; exact H) | exact H
            have Ny702 := Aq.mk hy702
            clear hy702
            have H' := Aq.mk H
            clear H
            have q27 : (x13_1 : Int) ≤ ((l0.length : Int) : Int) := of_decide_eq_true (by first | (with_reducible assumption) | assumption)
            obtain ⟨i027, hi027, _, hsz27, _⟩ := info_parts info26
            have hroom27 : l0.length ≤ c0 := HC0.out
            have hC27 : Kd.C k26 _ (some ad697) l0.length l0 := HR0.out
            have hcut27 := cut_to (P := Try.prog) 47 26 .i64 Try.underlying47 hi027 (some ad697) l0.length c0 x13_1 (of_decide_eq_true (by first | (with_reducible assumption) | assumption)) q27 hroom27
            have hr27 := Kd.C_take (m := (x13_1 : Int).toNat) hC27 (by omega)
            have hy27 : y702.length = (x13_1 : Int).toNat := (by rw [Ny702.out, List.length_take]; omega)
            rw [← Ny702.out] at hr27
            rw [← hy27] at hcut27
            have HR705 := Aq.mk hr27
            have HC705 := Aq.mk (show y702.length ≤ c0 from by omega)
            clear hr27 hC27 hroom27 hi027 hsz27
            have KY27 := Aq.mk hy27
            clear hy27
            replace q27 := eq_true q27
            go_wp2
            go_loopg [45] kj7 (fun kq v45 w' => ∃ (x45_3 : Int), v45 = .int .i64 x45_3 ∧ Aq (impl_ValidSpaces.l1 kq l0 l0 (l0.length : Int) x13_1 y702 (y702.length : Int) x45_3 ((rd_T26 l0 x13_1).f0) ((rd_T26 l0 x13_1).f1) = some r) ∧ Aq (kq ≤ kj7) ∧ Aq (w'.heap[gb698]? = some (.cells #[.int .i64 ((rd_T26 l0 x13_1).f0), (.slice A697_1 ((rd_T26 l0 x13_1).f1).length c697_1)] 26 (0, 0))) ∧ Aq (Below w.heap.size w w'))
            case atStart => exact ⟨(0), (by first | rfl | (simp; done) | (simp [*]; done)), H', ⟨Nat.le_refl _⟩, ⟨by (with_reducible repeat (first | refine kQN ?_ _ | refine kQD ?_ | refine kQA ?_ _)); exact BK698.out⟩, ⟨by repeat (first | (with_reducible first | exact HB.out | apply bQA | apply bQN | apply bQ1 | refine bQS ?_ GE698.out) | exact HB.out)⟩⟩
            case round =>
             clear H'
             try clear c1
             try clear c2
             try clear p2
             try clear q2
             try clear c6
             try clear c7
             try clear p7
             try clear q7
             try clear hx7
             try clear qi7
             try clear c12
             try clear c13
             try clear c14
             try clear c14b0
             try clear c14b1
             try clear c24
             try clear c25
             try clear c25b0
             try clear c25b1
             try clear c26
             try clear c26b0
             try clear c26b1
             try clear q27
             try clear hx700_0
             try clear hx700_1
             try clear hx701_0
             try clear hx701_1
             try clear p2
             try clear p7
             try clear p700
             try clear q27
             try clear q7
             try clear q700
             obtain ⟨x45_3, rfl, HA, HK3, BK698, HB⟩ := hrel
             cases gk with
             | zero => exact absurd HA.out (by simp [impl_ValidSpaces.l1])
             | succ k3 =>
              have H := HA.out
              clear HA
              simp only [impl_ValidSpaces.l1] at H
              by_cases c28 : x45_3 < (y702.length : Int)
              ·rw [if_pos c28] at H
               have c28b0 : decide (x45_3 < (y702.length : Int)) = true := decide_eq_true c28
               clear c28
               by_cases c29 : 0 ≤ x45_3
               ·rw [if_pos c29] at H
                have c29b0 : decide (0 ≤ x45_3) = true := decide_eq_true c29
                clear c29
                by_cases c30 : x45_3 < (y702.length : Int)
                ·rw [if_pos c30] at H
                 have c30b0 : decide (x45_3 < (y702.length : Int)) = true := decide_eq_true c30
                 clear c30
                 replace H := Option.bind_eq_some_iff.mp H
                 obtain ⟨t708, A310, H⟩ := H
                 replace H : (if t708 = true then (some false) else (impl_ValidSpaces.l1 k3 l0 l0 (l0.length : Int) x13_1 y702 (y702.length : Int) (wrap64 (x45_3 + 1)) ((rd_T26 l0 x13_1).f0) ((rd_T26 l0 x13_1).f1))) = some r := H
                 have A31 := Aq.mk A310
                 clear A310
                 by_cases c32 : t708 = true
                 ·subst c32
                  have H1 : (some false) = some r := by rw [if_pos rfl] at H; exact H
                  clear H
                  have H := H1
                  clear H1
                  obtain rfl := Option.some.inj H
                  have p706 : 0 ≤ (x45_3 : Int) := of_decide_eq_true (by first | (with_reducible assumption) | assumption)
                  have q706 : x45_3 < (y702.length : Int) := of_decide_eq_true (by first | (with_reducible assumption) | assumption)
                  obtain ⟨ad706, A706_1, c706_1, e706, hx706_0, hx706_1, hl706_1, hi706_1⟩ := at_T26 HR705.out x45_3 p706 q706
                  obtain rfl : ad697 = ad706 := (by injection e706)
                  replace hx706_0 := (HB.out.cell (World.block_lt_of_cell? w _ hx706_0)).trans hx706_0
                  replace hx706_1 := (HB.out.cell (World.block_lt_of_cell? w _ hx706_1)).trans hx706_1
                  have HR706_1 := Aq.mk hi706_1
                  have HC706_1 := Aq.mk hl706_1
                  clear hi706_1 hl706_1
                  replace p706 := eq_true p706
                  replace q706 := eq_true q706
                  go_wp2_with (first | ((with_reducible refine gQd (N := 6) rfl ?_); (try (refine gate_guard (by rfl) ?_; dsimp only)); refine xQe ?hg (N := 6) ?hd (cs := #[.int .i64 0, .slice none 0 0]) (t := 26) ?hr ?_; (case hd => rfl); (case hg => rfl); (case hr => first | (go_simp; done) | (go_simp; rfl)); intro gb707 hg w33 hbox hb; have n0_ := Aq.mk (kQB (g := gb698) (o := .cells #[.int .i64 ((rd_T26 l0 x13_1).f0), .slice A697_1 ((rd_T26 l0 x13_1).f1).length c697_1] 26 (0, 0)) (by (with_reducible repeat (first | refine kQN ?_ _ | refine kQD ?_ | refine kQA ?_ _)); exact BK698.out) hb); have n1_ := Aq.mk (bQT (by repeat (first | (with_reducible first | exact HB.out | apply bQA | apply bQN | apply bQ1 | refine bQS ?_ GE698.out) | exact HB.out)) hb); have n2_ := Aq.mk (hbox); have n3_ := Aq.mk ((by rw [hg]; exact (bQZ (by repeat (first | (with_reducible first | exact HB.out | apply bQA | apply bQN | apply bQ1 | refine bQS ?_ GE698.out) | exact HB.out))) : w.heap.size ≤ gb707)); have n4_ := Aq.mk ((by rw [hg]; exact (bQZ (by repeat (first | (with_reducible first | exact HB.out | apply bQA | apply bQN | apply bQ1 | refine bQS ?_ GE698.out) | exact HB.out))) : w.heap.size ≤ gb707)); have n5_ := Aq.mk ((by rw [hg]; exact Nat.ne_of_lt (blk_lt (g := gb698) (o := .cells #[.int .i64 ((rd_T26 l0 x13_1).f0), .slice A697_1 ((rd_T26 l0 x13_1).f1).length c697_1] 26 (0, 0)) (by (with_reducible repeat (first | refine kQN ?_ _ | refine kQD ?_ | refine kQA ?_ _)); exact BK698.out)) : gb698 ≠ gb707)); have n6_ := Aq.mk ((by rw [hg]; exact Nat.ne_of_gt (blk_lt (g := gb698) (o := .cells #[.int .i64 ((rd_T26 l0 x13_1).f0), .slice A697_1 ((rd_T26 l0 x13_1).f1).length c697_1] 26 (0, 0)) (by (with_reducible repeat (first | refine kQN ?_ _ | refine kQD ?_ | refine kQA ?_ _)); exact BK698.out)) : gb707 ≠ gb698)); clear BK698; clear HB; have BK698 := n0_; have HB := n1_; have BK707 := n2_; have GW707 := n3_; have GE707 := n4_; have NB698_707 := n5_; have NB707_698 := n6_; clear n0_ n1_ n2_ n3_ n4_ n5_ n6_; clear hb hbox hg; have hnb34 := NB707_698.out; have hnc34 := NB698_707.out; have hcz35_0 : w33.cell? ⟨gb707, 0, none⟩ = some (.int .i64 0) := (kQC BK707.out 0).trans rfl; have hcz35_1 : w33.cell? ⟨gb707, 1, none⟩ = some (.slice none 0 0) := (kQC BK707.out 1).trans rfl; have hfz35_0 := kQF BK707.out 0; have hfz35_1 := kQF BK707.out 1; have hcz36_0 : w33.cell? ⟨gb698, 0, none⟩ = some (.int .i64 ((rd_T26 l0 x13_1).f0)) := (kQC BK698.out 0).trans rfl; have hcz36_1 : w33.cell? ⟨gb698, 1, none⟩ = some (.slice A697_1 ((rd_T26 l0 x13_1).f1).length c697_1) := (kQC BK698.out 1).trans rfl; have hfz36_0 := kQF BK698.out 0; have hfz36_1 := kQF BK698.out 1) | ((with_reducible refine gQc (f := 83) rfl ?_); refine goesL_ (some 51) rfl rfl Try.func83 (by kernel_rfl) rfl #[.agg #[.int .i64 ((rd_T26 l0 x13_1).f0), .slice A697_1 ((rd_T26 l0 x13_1).f1).length c697_1], .agg #[.int .i64 ((rd_T26 y702 x45_3).f0), .slice A706_1 ((rd_T26 y702 x45_3).f1).length c706_1]] rfl (by (try simp only [List.map_toArray, List.map_cons, List.map_nil]); first | done | rfl | (simp only [List.length_drop, List.length_take]; rfl)) ?_; (with_reducible refine (impl_SameMatrix.calls k3 ((rd_T26 l0 x13_1).f0) _ _ ((rd_T26 l0 x13_1).f1) ((rd_T26 y702 x45_3).f0) _ _ ((rd_T26 y702 x45_3).f1) true _ ?side1 ?side2 ?side3 ?side4 A31.out).mono ?_); (case side1 => exact Kd.C_below HR697_1.out (by repeat (first | (with_reducible first | exact HB.out | apply bQA | apply bQN | apply bQ1 | refine bQS ?_ GE698.out | refine bQS ?_ GE707.out) | exact HB.out))); (case side2 => exact HC697_1.out); (case side3 => exact Kd.C_below HR706_1.out (by repeat (first | (with_reducible first | exact HB.out | apply bQA | apply bQN | apply bQ1 | refine bQS ?_ GE698.out | refine bQS ?_ GE707.out) | exact HB.out))); (case side4 => exact HC706_1.out); rintro e w37 ⟨rfl, hb⟩; refine ⟨_, rfl, ?_⟩; have n0_ := Aq.mk (kQB (g := gb698) (o := .cells #[.int .i64 ((rd_T26 l0 x13_1).f0), .slice A697_1 ((rd_T26 l0 x13_1).f1).length c697_1] 26 (0, 0)) (by (with_reducible repeat (first | refine kQN ?_ _ | refine kQD ?_ | refine kQA ?_ _)); refine kQR ?_ NB698_707.out _; (with_reducible repeat (first | refine kQN ?_ _ | refine kQD ?_ | refine kQA ?_ _)); refine kQR ?_ NB698_707.out _; (with_reducible repeat (first | refine kQN ?_ _ | refine kQD ?_ | refine kQA ?_ _)); exact BK698.out) hb); have n1_ := Aq.mk (kQB (g := gb707) (o := .cells #[.int .i64 ((rd_T26 y702 x45_3).f0), .slice A706_1 ((rd_T26 y702 x45_3).f1).length c706_1] 26 (0, 0)) (by (with_reducible repeat (first | refine kQN ?_ _ | refine kQD ?_ | refine kQA ?_ _)); refine kQP (cs := #[.int .i64 ((rd_T26 y702 x45_3).f0), .slice none 0 0]) ?_ 1 _ rfl; (with_reducible repeat (first | refine kQN ?_ _ | refine kQD ?_ | refine kQA ?_ _)); refine kQP (cs := #[.int .i64 0, .slice none 0 0]) ?_ 0 _ rfl; (with_reducible repeat (first | refine kQN ?_ _ | refine kQD ?_ | refine kQA ?_ _)); exact BK707.out) hb); have n2_ := Aq.mk (bQT (by repeat (first | (with_reducible first | exact HB.out | apply bQA | apply bQN | apply bQ1 | refine bQS ?_ GE698.out | refine bQS ?_ GE707.out) | exact HB.out)) hb); clear BK698; clear BK707; clear HB; have BK698 := n0_; have BK707 := n1_; have HB := n2_; clear n0_ n1_ n2_; (try clear hb); (try clear hb2); (try clear hk); (try clear hi)))
                  go_ret
                  exact ⟨by first | rfl | (simp [errW_none, errW_some] <;> rfl) | (simp [*, errW_none, errW_some] <;> rfl), by repeat (first | (with_reducible first | exact HB.out | apply bQA | apply bQN | apply bQ1 | refine bQS ?_ GE698.out | refine bQS ?_ GE707.out) | exact HB.out)⟩
                 ·replace c32 := Bool.eq_false_iff.mpr c32
                  subst c32
                  have H1 : (impl_ValidSpaces.l1 k3 l0 l0 (l0.length : Int) x13_1 y702 (y702.length : Int) (wrap64 (x45_3 + 1)) ((rd_T26 l0 x13_1).f0) ((rd_T26 l0 x13_1).f1)) = some r := by rw [if_neg (show ¬ (false = true) by decide)] at H; exact H
                  clear H
                  have H := H1
                  clear H1
                  have H' := Aq.mk H
                  clear H
                  have p706 : 0 ≤ (x45_3 : Int) := of_decide_eq_true (by first | (with_reducible assumption) | assumption)
                  have q706 : x45_3 < (y702.length : Int) := of_decide_eq_true (by first | (with_reducible assumption) | assumption)
                  obtain ⟨ad706, A706_1, c706_1, e706, hx706_0, hx706_1, hl706_1, hi706_1⟩ := at_T26 HR705.out x45_3 p706 q706
                  obtain rfl : ad697 = ad706 := (by injection e706)
                  replace hx706_0 := (HB.out.cell (World.block_lt_of_cell? w _ hx706_0)).trans hx706_0
                  replace hx706_1 := (HB.out.cell (World.block_lt_of_cell? w _ hx706_1)).trans hx706_1
                  have HR706_1 := Aq.mk hi706_1
                  have HC706_1 := Aq.mk hl706_1
                  clear hi706_1 hl706_1
                  replace p706 := eq_true p706
                  replace q706 := eq_true q706
                  go_wp2_with (first | ((with_reducible refine gQd (N := 6) rfl ?_); (try (refine gate_guard (by rfl) ?_; dsimp only)); refine xQe ?hg (N := 6) ?hd (cs := #[.int .i64 0, .slice none 0 0]) (t := 26) ?hr ?_; (case hd => rfl); (case hg => rfl); (case hr => first | (go_simp; done) | (go_simp; rfl)); intro gb707 hg w38 hbox hb; have n0_ := Aq.mk (kQB (g := gb698) (o := .cells #[.int .i64 ((rd_T26 l0 x13_1).f0), .slice A697_1 ((rd_T26 l0 x13_1).f1).length c697_1] 26 (0, 0)) (by (with_reducible repeat (first | refine kQN ?_ _ | refine kQD ?_ | refine kQA ?_ _)); exact BK698.out) hb); have n1_ := Aq.mk (bQT (by repeat (first | (with_reducible first | exact HB.out | apply bQA | apply bQN | apply bQ1 | refine bQS ?_ GE698.out) | exact HB.out)) hb); have n2_ := Aq.mk (hbox); have n3_ := Aq.mk ((by rw [hg]; exact (bQZ (by repeat (first | (with_reducible first | exact HB.out | apply bQA | apply bQN | apply bQ1 | refine bQS ?_ GE698.out) | exact HB.out))) : w.heap.size ≤ gb707)); have n4_ := Aq.mk ((by rw [hg]; exact (bQZ (by repeat (first | (with_reducible first | exact HB.out | apply bQA | apply bQN | apply bQ1 | refine bQS ?_ GE698.out) | exact HB.out))) : w.heap.size ≤ gb707)); have n5_ := Aq.mk ((by rw [hg]; exact Nat.ne_of_lt (blk_lt (g := gb698) (o := .cells #[.int .i64 ((rd_T26 l0 x13_1).f0), .slice A697_1 ((rd_T26 l0 x13_1).f1).length c697_1] 26 (0, 0)) (by (with_reducible repeat (first | refine kQN ?_ _ | refine kQD ?_ | refine kQA ?_ _)); exact BK698.out)) : gb698 ≠ gb707)); have n6_ := Aq.mk ((by rw [hg]; exact Nat.ne_of_gt (blk_lt (g := gb698) (o := .cells #[.int .i64 ((rd_T26 l0 x13_1).f0), .slice A697_1 ((rd_T26 l0 x13_1).f1).length c697_1] 26 (0, 0)) (by (with_reducible repeat (first | refine kQN ?_ _ | refine kQD ?_ | refine kQA ?_ _)); exact BK698.out)) : gb707 ≠ gb698)); clear BK698; clear HB; have BK698 := n0_; have HB := n1_; have BK707 := n2_; have GW707 := n3_; have GE707 := n4_; have NB698_707 := n5_; have NB707_698 := n6_; clear n0_ n1_ n2_ n3_ n4_ n5_ n6_; clear hb hbox hg; have hnb39 := NB707_698.out; have hnc39 := NB698_707.out; have hcz40_0 : w38.cell? ⟨gb707, 0, none⟩ = some (.int .i64 0) := (kQC BK707.out 0).trans rfl; have hcz40_1 : w38.cell? ⟨gb707, 1, none⟩ = some (.slice none 0 0) := (kQC BK707.out 1).trans rfl; have hfz40_0 := kQF BK707.out 0; have hfz40_1 := kQF BK707.out 1; have hcz41_0 : w38.cell? ⟨gb698, 0, none⟩ = some (.int .i64 ((rd_T26 l0 x13_1).f0)) := (kQC BK698.out 0).trans rfl; have hcz41_1 : w38.cell? ⟨gb698, 1, none⟩ = some (.slice A697_1 ((rd_T26 l0 x13_1).f1).length c697_1) := (kQC BK698.out 1).trans rfl; have hfz41_0 := kQF BK698.out 0; have hfz41_1 := kQF BK698.out 1) | ((with_reducible refine gQc (f := 83) rfl ?_); refine goesL_ (some 51) rfl rfl Try.func83 (by kernel_rfl) rfl #[.agg #[.int .i64 ((rd_T26 l0 x13_1).f0), .slice A697_1 ((rd_T26 l0 x13_1).f1).length c697_1], .agg #[.int .i64 ((rd_T26 y702 x45_3).f0), .slice A706_1 ((rd_T26 y702 x45_3).f1).length c706_1]] rfl (by (try simp only [List.map_toArray, List.map_cons, List.map_nil]); first | done | rfl | (simp only [List.length_drop, List.length_take]; rfl)) ?_; (with_reducible refine (impl_SameMatrix.calls k3 ((rd_T26 l0 x13_1).f0) _ _ ((rd_T26 l0 x13_1).f1) ((rd_T26 y702 x45_3).f0) _ _ ((rd_T26 y702 x45_3).f1) false _ ?side1 ?side2 ?side3 ?side4 A31.out).mono ?_); (case side1 => exact Kd.C_below HR697_1.out (by repeat (first | (with_reducible first | exact HB.out | apply bQA | apply bQN | apply bQ1 | refine bQS ?_ GE698.out | refine bQS ?_ GE707.out) | exact HB.out))); (case side2 => exact HC697_1.out); (case side3 => exact Kd.C_below HR706_1.out (by repeat (first | (with_reducible first | exact HB.out | apply bQA | apply bQN | apply bQ1 | refine bQS ?_ GE698.out | refine bQS ?_ GE707.out) | exact HB.out))); (case side4 => exact HC706_1.out); rintro e w42 ⟨rfl, hb⟩; refine ⟨_, rfl, ?_⟩; have n0_ := Aq.mk (kQB (g := gb698) (o := .cells #[.int .i64 ((rd_T26 l0 x13_1).f0), .slice A697_1 ((rd_T26 l0 x13_1).f1).length c697_1] 26 (0, 0)) (by (with_reducible repeat (first | refine kQN ?_ _ | refine kQD ?_ | refine kQA ?_ _)); refine kQR ?_ NB698_707.out _; (with_reducible repeat (first | refine kQN ?_ _ | refine kQD ?_ | refine kQA ?_ _)); refine kQR ?_ NB698_707.out _; (with_reducible repeat (first | refine kQN ?_ _ | refine kQD ?_ | refine kQA ?_ _)); exact BK698.out) hb); have n1_ := Aq.mk (kQB (g := gb707) (o := .cells #[.int .i64 ((rd_T26 y702 x45_3).f0), .slice A706_1 ((rd_T26 y702 x45_3).f1).length c706_1] 26 (0, 0)) (by (with_reducible repeat (first | refine kQN ?_ _ | refine kQD ?_ | refine kQA ?_ _)); refine kQP (cs := #[.int .i64 ((rd_T26 y702 x45_3).f0), .slice none 0 0]) ?_ 1 _ rfl; (with_reducible repeat (first | refine kQN ?_ _ | refine kQD ?_ | refine kQA ?_ _)); refine kQP (cs := #[.int .i64 0, .slice none 0 0]) ?_ 0 _ rfl; (with_reducible repeat (first | refine kQN ?_ _ | refine kQD ?_ | refine kQA ?_ _)); exact BK707.out) hb); have n2_ := Aq.mk (bQT (by repeat (first | (with_reducible first | exact HB.out | apply bQA | apply bQN | apply bQ1 | refine bQS ?_ GE698.out | refine bQS ?_ GE707.out) | exact HB.out)) hb); clear BK698; clear BK707; clear HB; have BK698 := n0_; have BK707 := n1_; have HB := n2_; clear n0_ n1_ n2_; (try clear hb); (try clear hb2); (try clear hk); (try clear hi)))
                  go_roundg k3
                  case measure => have := HK1.out; have := HJ7.out; have := HK3.out; omega
                  case rel => exact ⟨(wrap64 (x45_3 + 1)), (by first | rfl | (simp; done) | (simp [*]; done)), H', ⟨by have := HK1.out; have := HJ7.out; have := HK3.out; omega⟩, ⟨by (with_reducible repeat (first | refine kQN ?_ _ | refine kQD ?_ | refine kQA ?_ _)); exact BK698.out⟩, ⟨by repeat (first | (with_reducible first | exact HB.out | apply bQA | apply bQN | apply bQ1 | refine bQS ?_ GE698.out | refine bQS ?_ GE707.out) | exact HB.out)⟩⟩
                ·rw [if_neg c30] at H
                 exact absurd H (by simp)
               ·rw [if_neg c29] at H
                exact absurd H (by simp)
              ·rw [if_neg c28] at H
               have c28b0 : decide (x45_3 < (y702.length : Int)) = false := decide_eq_false c28
               clear c28
               have H' := Aq.mk H
               clear H
               go_wp2
               go_roundg k3
               case measure => have := HK1.out; have := HJ7.out; have := HK3.out; omega
               case rel => exact ⟨(wrap64 (x13_1 + 1)), (by first | rfl | (simp; done) | (simp [*]; done)), H', ⟨by have := HK1.out; have := HJ7.out; have := HK3.out; omega⟩, ⟨by repeat (first | (with_reducible first | exact HB.out | apply bQA | apply bQN | apply bQ1 | refine bQS ?_ GE698.out) | exact HB.out)⟩⟩
           ·rw [if_neg c26] at H
            exact absurd H (by simp)
          ·rw [if_neg c25] at H
           exact absurd H (by simp)
      ·rw [if_neg c7] at H
       exact absurd H (by simp)
     ·rw [if_neg c6] at H
      exact absurd H (by simp)
    ·rw [if_neg c5] at H
     have c5b0 : decide (x13_1 < (l0.length : Int)) = false := decide_eq_false c5
     clear c5
     obtain rfl := Option.some.inj H
     go_wp2
     go_ret
     exact ⟨by first | rfl | (simp [errW_none, errW_some] <;> rfl) | (simp [*, errW_none, errW_some] <;> rfl), by repeat (first | (with_reducible first | exact HB.out | apply bQA | apply bQN | apply bQ1) | exact HB.out)⟩
 ·replace c4 := Bool.eq_false_iff.mpr c4
  subst c4
  have H1 : (some false) = some r := by rw [if_neg (show ¬ (false = true) by decide)] at H; exact H
  clear H
  have H := H1
  clear H1
  obtain rfl := Option.some.inj H
  go_enter Try.func38, Try.ntmps38
  go_wp2_with (first | ((with_reducible refine gQc (f := 82) rfl ?_); refine goesL_ (some 8) rfl rfl Try.func82 (by kernel_rfl) rfl #[.slice A0 l0.length c0] rfl (by (try simp only [List.map_toArray, List.map_cons, List.map_nil]); first | done | rfl | (simp only [List.length_drop, List.length_take]; rfl)) ?_; (with_reducible refine (impl_Matrix.calls _ _ l0 t695 _ ?side1 ?side2 A2.out).mono ?_); (case side1 => repeat (first | exact HR0.out | (with_reducible refine Kd.CqA ?_ _) | (with_reducible refine Kd.CqN ?_ _) | (with_reducible refine Kd.CqD ?_))); (case side2 => exact HC0.out); rintro e w' ⟨rfl, ⟨nd, rfl⟩⟩; refine ⟨_, rfl, ?_⟩) | ((with_reducible refine gQc (f := 81) rfl ?_); refine goesL_ (some 9) rfl rfl Try.func81 (by kernel_rfl) rfl #[.int .i64 t695, .int .i64 1, .int .i64 400] rfl (by (try simp only [List.map_toArray, List.map_cons, List.map_nil]); first | done | rfl | (simp only [List.length_drop, List.length_take]; rfl)) ?_; (with_reducible refine (impl_within.calls t695 1 400 false _ A3.out).mono ?_); rintro e w' ⟨rfl, ⟨nd, rfl⟩⟩; refine ⟨_, rfl, ?_⟩))
  go_ret
  exact ⟨by first | rfl | (simp [errW_none, errW_some] <;> rfl) | (simp [*, errW_none, errW_some] <;> rfl), by repeat (first | (with_reducible first | exact HB.out | apply bQA | apply bQN | apply bQ1) | exact HB.out)⟩
end Go.Proofs.Ytbaicdgkpnbipaa.P
