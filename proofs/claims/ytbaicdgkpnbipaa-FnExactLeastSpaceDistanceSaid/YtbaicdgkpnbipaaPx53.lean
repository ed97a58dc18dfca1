/- Functions of the program and what they tell, as the printing program wrote it. -/
import Derived.Test.YtbaicdgkpnbipaaPx0
import Derived.Test.YtbaicdgkpnbipaaPx18
import Derived.Test.YtbaicdgkpnbipaaPx30
import Derived.Test.YtbaicdgkpnbipaaPx32
import Derived.Test.YtbaicdgkpnbipaaPx34
namespace Go.Proofs.Ytbaicdgkpnbipaa.P
open Go.Shelf Go.RowKit Go.Proofs.YtbaicdgkpnbipaaW.PrintWords Go.Proofs.YtbaicdgkpnbipaaW.PrintLast Go.Proofs.YtbaicdgkpnbipaaW.PrintMore
attribute [local go_sem] max2_int min2_int max_two min_two max_three min_three max_four min_four
set_option linter.unusedVariables false
set_option linter.unusedSimpArgs false
def spec_l00Min.f (a0 : Int) (a1 : Int) : Option (Int) := if a0 < a1 then (some a0) else (some a1)
set_option maxHeartbeats 8000000 in
set_option maxRecDepth 100000 in
theorem spec_l00Min.calls (a0 : Int) (a1 : Int) (r : Int) (w : World) (h : spec_l00Min.f a0 a1 = some r) :
 Calls Try.prog 93 #[.int .i64 a0, .int .i64 a1] w fun e w' => e = .returned (.int .i64 r) ∧ Dq w w' := by
 have H : (if a0 < a1 then (some a0) else (some a1)) = some r := h
 clear h
 by_cases c3 : a0 < a1
 ·rw [if_pos c3] at H
  have c3b0 : decide (a0 < a1) = true := decide_eq_true c3
  clear c3
  obtain rfl := Option.some.inj H
  go_enter Try.func93, Try.ntmps93
  go_wp2
  go_ret
  exact ⟨by first | rfl | (simp; done) | (simp [*]; done), by repeat (first | exact Dq.refl _ | apply Dq.step)⟩
 ·rw [if_neg c3] at H
  have c3b0 : decide (a0 < a1) = false := decide_eq_false c3
  clear c3
  obtain rfl := Option.some.inj H
  go_enter Try.func93, Try.ntmps93
  go_wp2
  go_ret
  exact ⟨by first | rfl | (simp; done) | (simp [*]; done), by repeat (first | exact Dq.refl _ | apply Dq.step)⟩
mutual
def spec_LeastSpaceDistance.l0 : Nat → List (S26) → Int → Int → Option (Int × Int)
  | 0, _, _, _ => none
  | k + 1, x0, x4, x5 => if x5 < (x0.length : Int) then (spec_LeastSpaceDistance.l1 k x0 x4 x5 0) else (some (x4, 0))
def spec_LeastSpaceDistance.l1 : Nat → List (S26) → Int → Int → Int → Option (Int × Int)
  | 0, _, _, _, _ => none
  | k + 1, x0, x4, x5, x6 => if x6 < x5 then (if 0 ≤ x5 then (if x5 < (x0.length : Int) then (if 0 ≤ x6 then (if x6 < (x0.length : Int) then ((spec_l02Distance.f k ((rd_T26 x0 x5).f0) ((rd_T26 x0 x5).f1) ((rd_T26 x0 x6).f0) ((rd_T26 x0 x6).f1)).bind fun t1127 => ((spec_l00Min.f x4 t1127).bind fun t1128 => (spec_LeastSpaceDistance.l1 k x0 t1128 x5 (wrap64 (x6 + 1))))) else (none)) else (none)) else (none)) else (none)) else (spec_LeastSpaceDistance.l0 k x0 x4 (wrap64 (x5 + 1)))
end
def spec_LeastSpaceDistance.f (k : Nat) (l0 : List (S26)) : Option (Int × Int) := (spec_l06Ok.f k l0).bind fun t1124 => (if t1124 = true then (if (l0.length : Int) = 1 then (some (0, 4)) else (spec_LeastSpaceDistance.l0 k l0 20 0)) else (some (0, 1)))
theorem spec_LeastSpaceDistance.mono_l : ∀ k, (∀ y0 y1 y2, LeO (spec_LeastSpaceDistance.l0 k y0 y1 y2) (spec_LeastSpaceDistance.l0 (k + 1) y0 y1 y2)) ∧ (∀ y0 y1 y2 y3, LeO (spec_LeastSpaceDistance.l1 k y0 y1 y2 y3) (spec_LeastSpaceDistance.l1 (k + 1) y0 y1 y2 y3))
 | 0 => ⟨fun _ _ _ r h => by simp [spec_LeastSpaceDistance.l0] at h, fun _ _ _ _ r h => by simp [spec_LeastSpaceDistance.l1] at h⟩
 | k + 1 => by
  obtain ⟨ih0, ih1⟩ := spec_LeastSpaceDistance.mono_l k
  refine ⟨?_, ?_⟩
  ·intro y0 y1 y2
   unfold spec_LeastSpaceDistance.l0
   repeat' first
   | (with_reducible first | exact ih0 _ _ _ | exact ih1 _ _ _ _ | exact spec_l02Distance.mono _ _ _ _ _ | exact spec_l06Ok.mono _ _ | exact LeO.refl _ | exact LeO.none _ | refine LeO.ite ?_ ?_ | refine LeO.bind ?_ (fun _ => ?_))
   | exact LeO.none _
   | refine LeO.ite ?_ ?_
   | refine LeO.bind ?_ (fun _ => ?_)
  ·intro y0 y1 y2 y3
   unfold spec_LeastSpaceDistance.l1
   repeat' first
   | (with_reducible first | exact ih0 _ _ _ | exact ih1 _ _ _ _ | exact spec_l02Distance.mono _ _ _ _ _ | exact spec_l06Ok.mono _ _ | exact LeO.refl _ | exact LeO.none _ | refine LeO.ite ?_ ?_ | refine LeO.bind ?_ (fun _ => ?_))
   | exact LeO.none _
   | refine LeO.ite ?_ ?_
   | refine LeO.bind ?_ (fun _ => ?_)
theorem spec_LeastSpaceDistance.mono : ∀ a0 k, LeO (spec_LeastSpaceDistance.f k a0) (spec_LeastSpaceDistance.f (k + 1) a0) := by
 intro a0 k
 obtain ⟨ih0, ih1⟩ := spec_LeastSpaceDistance.mono_l k
 unfold spec_LeastSpaceDistance.f
 repeat' first
  | (with_reducible first | exact ih0 _ _ _ | exact ih1 _ _ _ _ | exact spec_l02Distance.mono _ _ _ _ _ | exact spec_l06Ok.mono _ _ | exact LeO.refl _ | exact LeO.none _ | refine LeO.ite ?_ ?_ | refine LeO.bind ?_ (fun _ => ?_))
  | exact LeO.none _
  | refine LeO.ite ?_ ?_
  | refine LeO.bind ?_ (fun _ => ?_)
def spec_LeastSpaceDistance.T12 : Bool × List (List Nat × List Nat) := (true, [([], []), ([], []), ([], []), ([1, 2], [1, 2]), ([], []), ([], []), ([4, 5], [4, 5]), ([3, 6], [3, 6]), ([0, 7, 7], [0, 7]), ([8, 8, 0, 1, 2, 3, 4, 5, 6, 7, 8], [0, 8])])
def spec_LeastSpaceDistance.B12 : List Nat := [0, 0, 0, 6, 0, 0, 48, 126, 255, 511]
theorem spec_LeastSpaceDistance.tab12 : rtab .any (opsOf Try.f49 12) = spec_LeastSpaceDistance.T12 := by kernel_rfl
theorem spec_LeastSpaceDistance.bits12 : waitsOk spec_LeastSpaceDistance.T12.2 spec_LeastSpaceDistance.B12 = true := by kernel_rfl
set_option maxHeartbeats 8000000 in
set_option maxRecDepth 100000 in
theorem spec_LeastSpaceDistance.calls (k : Nat) (A0 : Option Addr) (c0 : Nat) (l0 : List (S26)) (r1 : Int) (r2 : Int) (w : World) (hr0 : Kd.C k26 w A0 l0.length l0) (hc0 : l0.length ≤ c0) (h : spec_LeastSpaceDistance.f k l0 = some (r1, r2)) :
 Calls Try.prog 49 #[.slice A0 l0.length c0] w fun e w' => e = .returned (.tuple #[.int .i64 r1, .int .i64 r2]) ∧ Below w.heap.size w w' := by
 have HR0 := Aq.mk hr0
 have HC0 := Aq.mk hc0
 clear hr0 hc0
 have HB := Aq.mk (Below.refl w.heap.size w)
 have H : ((spec_l06Ok.f k l0).bind fun t1124 => (if t1124 = true then (if (l0.length : Int) = 1 then (some (0, 4)) else (spec_LeastSpaceDistance.l0 k l0 20 0)) else (some (0, 1)))) = some (r1, r2) := h
 clear h
 replace H := Option.bind_eq_some_iff.mp H
 obtain ⟨t1124, A20, H⟩ := H
 replace H : (if t1124 = true then (if (l0.length : Int) = 1 then (some (0, 4)) else (spec_LeastSpaceDistance.l0 k l0 20 0)) else (some (0, 1))) = some (r1, r2) := H
 have A2 := Aq.mk A20
 clear A20
 by_cases c3 : t1124 = true
 ·subst c3
  have H1 : (if (l0.length : Int) = 1 then (some (0, 4)) else (spec_LeastSpaceDistance.l0 k l0 20 0)) = some (r1, r2) := by rw [if_pos rfl] at H; exact H
  clear H
  have H := H1
  clear H1
  by_cases c4 : (l0.length : Int) = 1
  ·rw [if_pos c4] at H
   have c4b0 : ((l0.length : Int) == 1) = true := beq_iff_eq.mpr c4
   have c4b1 : ((l0.length : Int) != 1) = false := bne_eq_false_iff_eq.mpr c4
   clear c4
   simp only [Option.some.injEq, Prod.mk.injEq] at H
   obtain ⟨rfl, rfl⟩ := H
   go_enter Try.func49, Try.ntmps49
   go_wp2_with (first | ((with_reducible refine gQc (f := 80) rfl ?_); refine goesL_ (some 8) rfl rfl Try.func80 (by kernel_rfl) rfl #[.slice A0 l0.length c0] rfl (by (try simp only [List.map_toArray, List.map_cons, List.map_nil]); first | done | rfl | (simp only [List.length_drop, List.length_take]; rfl)) ?_; (with_reducible refine (spec_l06Ok.calls k _ _ l0 true _ ?side1 ?side2 A2.out).mono ?_); (case side1 => repeat (first | exact HR0.out | (with_reducible refine Kd.CqA ?_ _) | (with_reducible refine Kd.CqN ?_ _) | (with_reducible refine Kd.CqD ?_))); (case side2 => exact HC0.out); rintro e w5 ⟨rfl, hb⟩; refine ⟨_, rfl, ?_⟩; have n0_ := Aq.mk (bQT (by repeat (first | (with_reducible first | exact HB.out | apply bQA | apply bQN | apply bQ1) | exact HB.out)) hb); clear HB; have HB := n0_; clear n0_; (try clear hb); (try clear hb2); (try clear hk); (try clear hi)))
   go_ret2
   exact ⟨by first | rfl | (simp [errW_none, errW_some] <;> rfl) | (simp [*, errW_none, errW_some] <;> rfl), by repeat (first | (with_reducible first | exact HB.out | apply bQA | apply bQN | apply bQ1) | exact HB.out)⟩
  ·rw [if_neg c4] at H
   have c4b0 : ((l0.length : Int) == 1) = false := beq_eq_false_iff_ne.mpr c4
   have c4b1 : ((l0.length : Int) != 1) = true := bne_iff_ne.mpr c4
   have H' := Aq.mk H
   clear H
   go_enter Try.func49, Try.ntmps49
   go_wp2_with (first | ((with_reducible refine gQc (f := 80) rfl ?_); refine goesL_ (some 8) rfl rfl Try.func80 (by kernel_rfl) rfl #[.slice A0 l0.length c0] rfl (by (try simp only [List.map_toArray, List.map_cons, List.map_nil]); first | done | rfl | (simp only [List.length_drop, List.length_take]; rfl)) ?_; (with_reducible refine (spec_l06Ok.calls k _ _ l0 true _ ?side1 ?side2 A2.out).mono ?_); (case side1 => repeat (first | exact HR0.out | (with_reducible refine Kd.CqA ?_ _) | (with_reducible refine Kd.CqN ?_ _) | (with_reducible refine Kd.CqD ?_))); (case side2 => exact HC0.out); rintro e w6 ⟨rfl, hb⟩; refine ⟨_, rfl, ?_⟩; have n0_ := Aq.mk (bQT (by repeat (first | (with_reducible first | exact HB.out | apply bQA | apply bQN | apply bQ1) | exact HB.out)) hb); clear HB; have HB := n0_; clear n0_; (try clear hb); (try clear hb2); (try clear hk); (try clear hi)))
   go_loopg [4, 5] k (fun kq v4 v5 w' => ∃ (x4_1 : Int) (x5_1 : Int), v4 = .int .i64 x4_1 ∧ v5 = .int .i64 x5_1 ∧ Aq (spec_LeastSpaceDistance.l0 kq l0 x4_1 x5_1 = some (r1, r2)) ∧ Aq (kq ≤ k) ∧ Aq (Below w.heap.size w w'))
   case atStart => exact ⟨(20), (0), (by first | rfl | (simp; done) | (simp [*]; done)), (by first | rfl | (simp; done) | (simp [*]; done)), H', ⟨Nat.le_refl _⟩, ⟨by repeat (first | (with_reducible first | exact HB.out | apply bQA | apply bQN | apply bQ1) | exact HB.out)⟩⟩
   case round =>
    clear H'
    try clear p2
    try clear c3
    try clear c4
    try clear c4b0
    try clear c4b1
    obtain ⟨x4_1, x5_1, rfl, rfl, HA, HK1, HB⟩ := hrel
    cases gk with
    | zero => exact absurd HA.out (by simp [spec_LeastSpaceDistance.l0])
    | succ k1 =>
     have H := HA.out
     clear HA
     simp only [spec_LeastSpaceDistance.l0] at H
     by_cases c7 : x5_1 < (l0.length : Int)
     ·rw [if_pos c7] at H
      have c7b0 : decide (x5_1 < (l0.length : Int)) = true := decide_eq_true c7
      clear c7
      have H' := Aq.mk H
      clear H
      go_wp2
      go_loopg [4, 6] k1 (fun kq v4 v6 w' => ∃ (x4_2 : Int) (x6_2 : Int), v4 = .int .i64 x4_2 ∧ v6 = .int .i64 x6_2 ∧ Aq (spec_LeastSpaceDistance.l1 kq l0 x4_2 x5_1 x6_2 = some (r1, r2)) ∧ Aq (kq ≤ k1) ∧ Aq (Below w.heap.size w w'))
      case atStart => exact ⟨(x4_1), (0), (by first | rfl | (simp; done) | (simp [*]; done)), (by first | rfl | (simp; done) | (simp [*]; done)), H', ⟨Nat.le_refl _⟩, ⟨by repeat (first | (with_reducible first | exact HB.out | apply bQA | apply bQN | apply bQ1) | exact HB.out)⟩⟩
      case round =>
       clear H'
       try clear p2
       try clear c3
       try clear c4
       try clear c4b0
       try clear c4b1
       try clear c7
       try clear c7b0
       try clear p2
       obtain ⟨x4_2, x6_2, rfl, rfl, HA, HK2, HB⟩ := hrel
       cases gk with
       | zero => exact absurd HA.out (by simp [spec_LeastSpaceDistance.l1])
       | succ k2 =>
        have H := HA.out
        clear HA
        simp only [spec_LeastSpaceDistance.l1] at H
        by_cases c8 : x6_2 < x5_1
        ·rw [if_pos c8] at H
         have c8b0 : decide (x6_2 < x5_1) = true := decide_eq_true c8
         clear c8
         by_cases c9 : 0 ≤ x5_1
         ·rw [if_pos c9] at H
          have c9b0 : decide (0 ≤ x5_1) = true := decide_eq_true c9
          clear c9
          by_cases c10 : x5_1 < (l0.length : Int)
          ·rw [if_pos c10] at H
           have c10b0 : decide (x5_1 < (l0.length : Int)) = true := decide_eq_true c10
           clear c10
           by_cases c11 : 0 ≤ x6_2
           ·rw [if_pos c11] at H
            have c11b0 : decide (0 ≤ x6_2) = true := decide_eq_true c11
            clear c11
            by_cases c12 : x6_2 < (l0.length : Int)
            ·rw [if_pos c12] at H
             have c12b0 : decide (x6_2 < (l0.length : Int)) = true := decide_eq_true c12
             clear c12
             replace H := Option.bind_eq_some_iff.mp H
             obtain ⟨t1127, A130, H⟩ := H
             replace H : ((spec_l00Min.f x4_2 t1127).bind fun t1128 => (spec_LeastSpaceDistance.l1 k2 l0 t1128 x5_1 (wrap64 (x6_2 + 1)))) = some (r1, r2) := H
             have A13 := Aq.mk A130
             clear A130
             replace H := Option.bind_eq_some_iff.mp H
             obtain ⟨t1128, A140, H⟩ := H
             replace H : (spec_LeastSpaceDistance.l1 k2 l0 t1128 x5_1 (wrap64 (x6_2 + 1))) = some (r1, r2) := H
             have A14 := Aq.mk A140
             clear A140
             have H' := Aq.mk H
             clear H
             try go_wp2
             have n0_ := Aq.mk (bQ1 HB.out)
             clear HB
             have HB := n0_
             clear n0_
             have p1125 : 0 ≤ (x5_1 : Int) := of_decide_eq_true (by first | (with_reducible assumption) | assumption)
             have q1125 : x5_1 < (l0.length : Int) := of_decide_eq_true (by first | (with_reducible assumption) | assumption)
             obtain ⟨ad1125, A1125_1, c1125_1, e1125, hx1125_0, hx1125_1, hl1125_1, hi1125_1⟩ := at_T26 HR0.out x5_1 p1125 q1125
             have hw1125_1 := hx1125_1
             have hw1125_0 := hx1125_0
             cases e1125
             replace hx1125_0 := (HB.out.cell (World.block_lt_of_cell? w _ hx1125_0)).trans hx1125_0
             replace hx1125_1 := (HB.out.cell (World.block_lt_of_cell? w _ hx1125_1)).trans hx1125_1
             have HR1125_1 := Aq.mk hi1125_1
             have HC1125_1 := Aq.mk hl1125_1
             clear hi1125_1 hl1125_1
             replace p1125 := eq_true p1125
             replace q1125 := eq_true q1125
             have p1126 : 0 ≤ (x6_2 : Int) := of_decide_eq_true (by first | (with_reducible assumption) | assumption)
             have q1126 : x6_2 < (l0.length : Int) := of_decide_eq_true (by first | (with_reducible assumption) | assumption)
             obtain ⟨ad1126, A1126_1, c1126_1, e1126, hx1126_0, hx1126_1, hl1126_1, hi1126_1⟩ := at_T26 HR0.out x6_2 p1126 q1126
             have hw1126_1 := hx1126_1
             have hw1126_0 := hx1126_0
             obtain rfl : ad1125 = ad1126 := (by injection e1126)
             replace hx1126_0 := (HB.out.cell (World.block_lt_of_cell? w _ hx1126_0)).trans hx1126_0
             replace hx1126_1 := (HB.out.cell (World.block_lt_of_cell? w _ hx1126_1)).trans hx1126_1
             have HR1126_1 := Aq.mk hi1126_1
             have HC1126_1 := Aq.mk hl1126_1
             clear hi1126_1 hl1126_1
             replace p1126 := eq_true p1126
             replace q1126 := eq_true q1126
             refine start_ (n := 10) (S := fun w' => w'.cell? (ad1125.add ((x5_1).toNat * 2)) = some (.int .i64 ((rd_T26 l0 x5_1).f0)) ∧ w'.cell? ⟨(ad1125.add ((x5_1).toNat * 2)).block, (ad1125.add ((x5_1).toNat * 2)).off + 1, none⟩ = some (.slice A1125_1 ((rd_T26 l0 x5_1).f1).length c1125_1) ∧ w'.cell? (ad1125.add ((x6_2).toNat * 2)) = some (.int .i64 ((rd_T26 l0 x6_2).f0)) ∧ w'.cell? ⟨(ad1125.add ((x6_2).toNat * 2)).block, (ad1125.add ((x6_2).toNat * 2)).off + 1, none⟩ = some (.slice A1126_1 ((rd_T26 l0 x6_2).f1).length c1126_1)) (ds := []) #[false, false, false, false, false, false, false, false, false, false] (by kernel_rfl) rfl rfl ⟨((HB.out.cell (World.block_lt_of_cell? w _ hw1125_0)).trans hw1125_0), ((HB.out.cell (World.block_lt_of_cell? w _ hw1125_1)).trans hw1125_1), ((HB.out.cell (World.block_lt_of_cell? w _ hw1126_0)).trans hw1126_0), ((HB.out.cell (World.block_lt_of_cell? w _ hw1126_1)).trans hw1126_1)⟩ (fun hHeld => ?_); refine with_tabW spec_LeastSpaceDistance.tab12 spec_LeastSpaceDistance.bits12 (fun HT_ HW_ => ?_)
             generalize wr.drew = w15 at HB HR1125_1 HR1126_1 hx1125_0 hx1125_1 hx1126_0 hx1126_1 hHeld ⊢
             refine pure_ (i := 0) (N := some 24) (v := ?_) (a' := ?_) #[true, false, false, false, false, false, false, false, false, false] rfl rfl (any_of HT_.out (by kernel_rfl)) (fun _ _ _ h => h) (Or.inl ⟨by rfl, ?_⟩) ?_ ?_
             rotate_left
             ·intro w'
              go_simp
              with_reducible rfl
             rotate_left
             ·simp only [Act.put, qSa, qSb, qSc, i64_w, i32_w]
              rfl
             refine pure_ (i := 1) (N := some 25) (v := ?_) (a' := ?_) #[true, true, false, false, false, false, false, false, false, false] rfl rfl (any_of HT_.out (by kernel_rfl)) (fun _ _ _ h => h) (Or.inl ⟨by rfl, ?_⟩) ?_ ?_
             rotate_left
             ·intro w'
              go_simp
              with_reducible rfl
             rotate_left
             ·simp only [Act.put, qSa, qSb, qSc, i64_w, i32_w]
              rfl
             refine pure_ (i := 2) (N := some 26) (v := ?_) (a' := ?_) #[true, true, true, false, false, false, false, false, false, false] rfl rfl (any_of HT_.out (by kernel_rfl)) (fun _ _ _ h => h) (Or.inl ⟨by rfl, ?_⟩) ?_ ?_
             rotate_left
             ·intro w'
              go_simp
              with_reducible rfl
             rotate_left
             ·simp only [Act.put, qSa, qSb, qSc, i64_w, i32_w]
              rfl
             refine pure_ (i := 3) (N := some 27) (v := ?_) (a' := ?_) #[true, true, true, true, false, false, false, false, false, false] rfl rfl (any_of HT_.out (by kernel_rfl)) (fun _ _ _ h => h) (Or.inl ⟨by rfl, ?_⟩) ?_ ?_
             rotate_left
             ·intro w'
              go_simp
              with_reducible rfl
             rotate_left
             ·simp only [Act.put, qSa, qSb, qSc, i64_w, i32_w]
              rfl
             refine pure_ (i := 4) (N := some 28) (v := ?_) (a' := ?_) #[true, true, true, true, true, false, false, false, false, false] rfl rfl (any_of HT_.out (by kernel_rfl)) (fun _ _ _ h => h) (Or.inl ⟨by rfl, ?_⟩) ?_ ?_
             rotate_left
             ·intro w'
              go_simp
              with_reducible rfl
             rotate_left
             ·simp only [Act.put, qSa, qSb, qSc, i64_w, i32_w]
              rfl
             refine pure_ (i := 5) (N := some 29) (v := ?_) (a' := ?_) #[true, true, true, true, true, true, false, false, false, false] rfl rfl (any_of HT_.out (by kernel_rfl)) (fun _ _ _ h => h) (Or.inl ⟨by rfl, ?_⟩) ?_ ?_
             rotate_left
             ·intro w'
              go_simp
              with_reducible rfl
             rotate_left
             ·simp only [Act.put, qSa, qSb, qSc, i64_w, i32_w]
              rfl
             refine pure_ (i := 6) (N := some 30) (v := ?_) (a' := ?_) #[true, true, true, true, true, true, true, false, false, false] rfl rfl (any_of HT_.out (by kernel_rfl)) (fun _ _ _ h => h) (Or.inl ⟨by rfl, ?_⟩) ?_ ?_
             rotate_left
             ·intro w'
              go_simp
              with_reducible rfl
             rotate_left
             ·simp only [Act.put, qSa, qSb, qSc, i64_w, i32_w]
              rfl
             refine one_ (i := 7) (N := some 31) #[true, true, true, true, true, true, true, true, false, false] rfl rfl (one_of HT_.out (by kernel_rfl)) (by decide) (fun K hK => ?_)
             refine goes_ Try.func84 (by kernel_rfl) rfl #[.pointer (some (ad1125.add (x5_1.toNat * 2))), .pointer (some (ad1125.add (x6_2.toNat * 2)))] (by rfl) rfl rfl (by (try simp only [List.map_toArray, List.map_cons, List.map_nil]); first | done | rfl | (simp only [List.length_drop, List.length_take]; rfl)) ?_
             with_reducible refine (spec_l02Distance.calls k2 ((ad1125.add (x5_1.toNat * 2)) : Addr) ((rd_T26 l0 x5_1).f0) A1125_1 c1125_1 ((rd_T26 l0 x5_1).f1) ((ad1125.add (x6_2.toNat * 2)) : Addr) ((rd_T26 l0 x6_2).f0) A1126_1 c1126_1 ((rd_T26 l0 x6_2).f1) t1127 _ ?side1 ?side2 ?side3 ?side4 ?side5 ?side6 A13.out).mono ?_
             (case side1 => repeat (first | exact (Kd.C_below HR1125_1.out HB.out) | (with_reducible refine Kd.CqA ?_ _) | (with_reducible refine Kd.CqN ?_ _) | (with_reducible refine Kd.CqD ?_)))
             (case side2 => exact HC1125_1.out)
             (case side3 => repeat (first | exact (Kd.C_below HR1126_1.out HB.out) | (with_reducible refine Kd.CqA ?_ _) | (with_reducible refine Kd.CqN ?_ _) | (with_reducible refine Kd.CqD ?_)))
             (case side4 => exact HC1126_1.out)
             (case side5 => exact AtC.of2 hx1125_0 hx1125_1)
             (case side6 => exact AtC.of2 hx1126_0 hx1126_1)
             rintro e w16 ⟨rfl, hb⟩
             refine ⟨_, rfl, ?_⟩
             have n0_ := Aq.mk (bQT (by repeat (first | (with_reducible first | exact HB.out | apply bQA | apply bQN | apply bQ1) | exact HB.out)) hb)
             clear HB
             have HB := n0_
             clear n0_
             (try clear hb)
             (try clear hb2)
             (try clear hk)
             (try clear hi)
             refine hK.out _ _ ⟨((HB.out.cell (World.block_lt_of_cell? w _ hw1125_0)).trans hw1125_0), ((HB.out.cell (World.block_lt_of_cell? w _ hw1125_1)).trans hw1125_1), ((HB.out.cell (World.block_lt_of_cell? w _ hw1126_0)).trans hw1126_0), ((HB.out.cell (World.block_lt_of_cell? w _ hw1126_1)).trans hw1126_1)⟩ (fun hHeld => ?_)
             clear hK K
             refine norm_ (a' := ?_) ?_ ?_
             rotate_left
             ·show Act.put _ (some 31) _ = _
              simp only [Act.put, qSa, qSb, qSc, i64_w, i32_w]
              rfl
             refine one_ (i := 8) (N := some 32) #[true, true, true, true, true, true, true, true, true, false] rfl rfl (one_of HT_.out (by kernel_rfl)) (by decide) (fun K hK => ?_)
             refine goes_ Try.func93 (by kernel_rfl) rfl #[.int .i64 x4_2, .int .i64 t1127] (by rfl) rfl rfl (by (try simp only [List.map_toArray, List.map_cons, List.map_nil]); first | done | rfl | (simp only [List.length_drop, List.length_take]; rfl)) ?_
             with_reducible refine (spec_l00Min.calls x4_2 t1127 t1128 _ A14.out).mono ?_
             rintro e w' ⟨rfl, ⟨nd, rfl⟩⟩
             refine ⟨_, rfl, ?_⟩
             refine hK.out _ _ ⟨((HB.out.cell (World.block_lt_of_cell? w _ hw1125_0)).trans hw1125_0), ((HB.out.cell (World.block_lt_of_cell? w _ hw1125_1)).trans hw1125_1), ((HB.out.cell (World.block_lt_of_cell? w _ hw1126_0)).trans hw1126_0), ((HB.out.cell (World.block_lt_of_cell? w _ hw1126_1)).trans hw1126_1)⟩ (fun hHeld => ?_)
             clear hK K
             refine norm_ (a' := ?_) ?_ ?_
             rotate_left
             ·show Act.put _ (some 32) _ = _
              simp only [Act.put, qSa, qSb, qSc, i64_w, i32_w]
              rfl
             refine pure_ (i := 9) (N := some 4) (v := ?_) (a' := ?_) #[true, true, true, true, true, true, true, true, true, true] rfl rfl (any_of HT_.out (by kernel_rfl)) (fun _ _ _ h => h) (Or.inl ⟨by rfl, ?_⟩) ?_ ?_
             rotate_left
             ·intro w'
              go_simp
              with_reducible rfl
             rotate_left
             ·simp only [Act.put, qSa, qSb, qSc, i64_w, i32_w]
              rfl
             refine done_ (done_of HT_.out (by kernel_rfl)) ?_
             try go_wp2
             go_roundg k2
             case measure => have := HK1.out; have := HK2.out; omega
             case rel => exact ⟨(t1128), (wrap64 (x6_2 + 1)), (by first | rfl | (simp; done) | (simp [*]; done)), (by first | rfl | (simp; done) | (simp [*]; done)), H', ⟨by have := HK1.out; have := HK2.out; omega⟩, ⟨by repeat (first | (with_reducible first | exact HB.out | apply bQA | apply bQN | apply bQ1) | exact HB.out)⟩⟩
            ·rw [if_neg c12] at H
             exact absurd H (by simp)
           ·rw [if_neg c11] at H
            exact absurd H (by simp)
          ·rw [if_neg c10] at H
           exact absurd H (by simp)
         ·rw [if_neg c9] at H
          exact absurd H (by simp)
        ·rw [if_neg c8] at H
         have c8b0 : decide (x6_2 < x5_1) = false := decide_eq_false c8
         clear c8
         have H' := Aq.mk H
         clear H
         go_wp2
         go_roundg k2
         case measure => have := HK1.out; have := HK2.out; omega
         case rel => exact ⟨(x4_2), (wrap64 (x5_1 + 1)), (by first | rfl | (simp; done) | (simp [*]; done)), (by first | rfl | (simp; done) | (simp [*]; done)), H', ⟨by have := HK1.out; have := HK2.out; omega⟩, ⟨by repeat (first | (with_reducible first | exact HB.out | apply bQA | apply bQN | apply bQ1) | exact HB.out)⟩⟩
     ·rw [if_neg c7] at H
      have c7b0 : decide (x5_1 < (l0.length : Int)) = false := decide_eq_false c7
      clear c7
      simp only [Option.some.injEq, Prod.mk.injEq] at H
      obtain ⟨rfl, rfl⟩ := H
      go_wp2
      go_ret2
      exact ⟨by first | rfl | (simp [errW_none, errW_some] <;> rfl) | (simp [*, errW_none, errW_some] <;> rfl), by repeat (first | (with_reducible first | exact HB.out | apply bQA | apply bQN | apply bQ1) | exact HB.out)⟩
 ·replace c3 := Bool.eq_false_iff.mpr c3
  subst c3
  have H1 : (some (0, 1)) = some (r1, r2) := by rw [if_neg (show ¬ (false = true) by decide)] at H; exact H
  clear H
  have H := H1
  clear H1
  simp only [Option.some.injEq, Prod.mk.injEq] at H
  obtain ⟨rfl, rfl⟩ := H
  go_enter Try.func49, Try.ntmps49
  go_wp2_with (first | ((with_reducible refine gQc (f := 80) rfl ?_); refine goesL_ (some 8) rfl rfl Try.func80 (by kernel_rfl) rfl #[.slice A0 l0.length c0] rfl (by (try simp only [List.map_toArray, List.map_cons, List.map_nil]); first | done | rfl | (simp only [List.length_drop, List.length_take]; rfl)) ?_; (with_reducible refine (spec_l06Ok.calls k _ _ l0 false _ ?side1 ?side2 A2.out).mono ?_); (case side1 => repeat (first | exact HR0.out | (with_reducible refine Kd.CqA ?_ _) | (with_reducible refine Kd.CqN ?_ _) | (with_reducible refine Kd.CqD ?_))); (case side2 => exact HC0.out); rintro e w17 ⟨rfl, hb⟩; refine ⟨_, rfl, ?_⟩; have n0_ := Aq.mk (bQT (by repeat (first | (with_reducible first | exact HB.out | apply bQA | apply bQN | apply bQ1) | exact HB.out)) hb); clear HB; have HB := n0_; clear n0_; (try clear hb); (try clear hb2); (try clear hk); (try clear hi)))
  go_ret2
  exact ⟨by first | rfl | (simp [errW_none, errW_some] <;> rfl) | (simp [*, errW_none, errW_some] <;> rfl), by repeat (first | (with_reducible first | exact HB.out | apply bQA | apply bQN | apply bQ1) | exact HB.out)⟩
mutual
def impl_LeastSpaceDistance.l0 : Nat → List (S26) → Int → List (S26) → Int → Int → Option (Int × Int)
  | 0, _, _, _, _, _ => none
  | k + 1, x0, x4, x17, x18, x19 => if x19 < x18 then (if 0 ≤ x19 then (if x19 < (x17.length : Int) then (if x19 ≤ (x0.length : Int) then ((some (x0.take (x19 : Int).toNat : List (S26))).bind fun y1132 => (impl_LeastSpaceDistance.l1 k x0 x4 x17 x18 x19 y1132 (y1132.length : Int) 0 ((rd_T26 x17 x19).f0) ((rd_T26 x17 x19).f1))) else (none)) else (none)) else (none)) else (some (x4, 0))
def impl_LeastSpaceDistance.l1 : Nat → List (S26) → Int → List (S26) → Int → Int → List (S26) → Int → Int → Int → List Int → Option (Int × Int)
  | 0, _, _, _, _, _, _, _, _, _, _ => none
  | k + 1, x0, x4, x17, x18, x19, x26, x27, x28, x1132000, x1132001 => if x28 < x27 then (if 0 ≤ x28 then (if x28 < (x26.length : Int) then ((impl_Matrix_distance.f k x1132000 x1132001 ((rd_T26 x26 x28).f0) ((rd_T26 x26 x28).f1)).bind fun t1138 => (impl_LeastSpaceDistance.l1 k x0 (mn x4 t1138) x17 x18 x19 x26 x27 (wrap64 (x28 + 1)) x1132000 x1132001)) else (none)) else (none)) else (impl_LeastSpaceDistance.l0 k x0 x4 x17 x18 (wrap64 (x19 + 1)))
end
def impl_LeastSpaceDistance.f (k : Nat) (l0 : List (S26)) : Option (Int × Int) := (impl_ValidSpaces.f k l0).bind fun t1129 => (if t1129 = true then (if (l0.length : Int) = 1 then (some (0, 4)) else (impl_LeastSpaceDistance.l0 k l0 20 l0 (l0.length : Int) 0)) else (some (0, 1)))
theorem impl_LeastSpaceDistance.mono_l : ∀ k, (∀ y0 y1 y2 y3 y4, LeO (impl_LeastSpaceDistance.l0 k y0 y1 y2 y3 y4) (impl_LeastSpaceDistance.l0 (k + 1) y0 y1 y2 y3 y4)) ∧ (∀ y0 y1 y2 y3 y4 y5 y6 y7 y8 y9, LeO (impl_LeastSpaceDistance.l1 k y0 y1 y2 y3 y4 y5 y6 y7 y8 y9) (impl_LeastSpaceDistance.l1 (k + 1) y0 y1 y2 y3 y4 y5 y6 y7 y8 y9))
 | 0 => ⟨fun _ _ _ _ _ r h => by simp [impl_LeastSpaceDistance.l0] at h, fun _ _ _ _ _ _ _ _ _ _ r h => by simp [impl_LeastSpaceDistance.l1] at h⟩
 | k + 1 => by
  obtain ⟨ih0, ih1⟩ := impl_LeastSpaceDistance.mono_l k
  refine ⟨?_, ?_⟩
  ·intro y0 y1 y2 y3 y4
   unfold impl_LeastSpaceDistance.l0
   repeat' first
   | (with_reducible first | exact ih0 _ _ _ _ _ | exact ih1 _ _ _ _ _ _ _ _ _ _ | exact impl_Matrix_distance.mono _ _ _ _ _ | exact impl_ValidSpaces.mono _ _ | exact LeO.refl _ | exact LeO.none _ | refine LeO.ite ?_ ?_ | refine LeO.bind ?_ (fun _ => ?_))
   | exact LeO.none _
   | refine LeO.ite ?_ ?_
   | refine LeO.bind ?_ (fun _ => ?_)
  ·intro y0 y1 y2 y3 y4 y5 y6 y7 y8 y9
   unfold impl_LeastSpaceDistance.l1
   repeat' first
   | (with_reducible first | exact ih0 _ _ _ _ _ | exact ih1 _ _ _ _ _ _ _ _ _ _ | exact impl_Matrix_distance.mono _ _ _ _ _ | exact impl_ValidSpaces.mono _ _ | exact LeO.refl _ | exact LeO.none _ | refine LeO.ite ?_ ?_ | refine LeO.bind ?_ (fun _ => ?_))
   | exact LeO.none _
   | refine LeO.ite ?_ ?_
   | refine LeO.bind ?_ (fun _ => ?_)
theorem impl_LeastSpaceDistance.mono : ∀ a0 k, LeO (impl_LeastSpaceDistance.f k a0) (impl_LeastSpaceDistance.f (k + 1) a0) := by
 intro a0 k
 obtain ⟨ih0, ih1⟩ := impl_LeastSpaceDistance.mono_l k
 unfold impl_LeastSpaceDistance.f
 repeat' first
  | (with_reducible first | exact ih0 _ _ _ _ _ | exact ih1 _ _ _ _ _ _ _ _ _ _ | exact impl_Matrix_distance.mono _ _ _ _ _ | exact impl_ValidSpaces.mono _ _ | exact LeO.refl _ | exact LeO.none _ | refine LeO.ite ?_ ?_ | refine LeO.bind ?_ (fun _ => ?_))
  | exact LeO.none _
  | refine LeO.ite ?_ ?_
  | refine LeO.bind ?_ (fun _ => ?_)
set_option maxHeartbeats 8000000 in
set_option maxRecDepth 100000 in
theorem impl_LeastSpaceDistance.calls (k : Nat) (A0 : Option Addr) (c0 : Nat) (l0 : List (S26)) (r1 : Int) (r2 : Int) (w : World) (hr0 : Kd.C k26 w A0 l0.length l0) (hc0 : l0.length ≤ c0) (h : impl_LeastSpaceDistance.f k l0 = some (r1, r2)) :
 Calls Try.prog 50 #[.slice A0 l0.length c0] w fun e w' => e = .returned (.tuple #[.int .i64 r1, .int .i64 r2]) ∧ Below w.heap.size w w' := by
 have hu26 := Try.underlying26
 have HR0 := Aq.mk hr0
 have HC0 := Aq.mk hc0
 clear hr0 hc0
 have HB := Aq.mk (Below.refl w.heap.size w)
 have H : ((impl_ValidSpaces.f k l0).bind fun t1129 => (if t1129 = true then (if (l0.length : Int) = 1 then (some (0, 4)) else (impl_LeastSpaceDistance.l0 k l0 20 l0 (l0.length : Int) 0)) else (some (0, 1)))) = some (r1, r2) := h
 clear h
 replace H := Option.bind_eq_some_iff.mp H
 obtain ⟨t1129, A20, H⟩ := H
 replace H : (if t1129 = true then (if (l0.length : Int) = 1 then (some (0, 4)) else (impl_LeastSpaceDistance.l0 k l0 20 l0 (l0.length : Int) 0)) else (some (0, 1))) = some (r1, r2) := H
 have A2 := Aq.mk A20
 clear A20
 by_cases c3 : t1129 = true
 ·subst c3
  have H1 : (if (l0.length : Int) = 1 then (some (0, 4)) else (impl_LeastSpaceDistance.l0 k l0 20 l0 (l0.length : Int) 0)) = some (r1, r2) := by rw [if_pos rfl] at H; exact H
  clear H
  have H := H1
  clear H1
  by_cases c4 : (l0.length : Int) = 1
  ·rw [if_pos c4] at H
   have c4b0 : ((l0.length : Int) == 1) = true := beq_iff_eq.mpr c4
   have c4b1 : ((l0.length : Int) != 1) = false := bne_eq_false_iff_eq.mpr c4
   clear c4
   simp only [Option.some.injEq, Prod.mk.injEq] at H
   obtain ⟨rfl, rfl⟩ := H
   go_enter Try.func50, Try.ntmps50
   go_wp2_with (first | ((with_reducible refine gQc (f := 38) rfl ?_); refine goesL_ (some 11) rfl rfl Try.func38 (by kernel_rfl) rfl #[.slice A0 l0.length c0] rfl (by (try simp only [List.map_toArray, List.map_cons, List.map_nil]); first | done | rfl | (simp only [List.length_drop, List.length_take]; rfl)) ?_; (with_reducible refine (impl_ValidSpaces.calls k _ _ l0 true _ ?side1 ?side2 A2.out).mono ?_); (case side1 => repeat (first | exact HR0.out | (with_reducible refine Kd.CqA ?_ _) | (with_reducible refine Kd.CqN ?_ _) | (with_reducible refine Kd.CqD ?_))); (case side2 => exact HC0.out); rintro e w5 ⟨rfl, hb⟩; refine ⟨_, rfl, ?_⟩; have n0_ := Aq.mk (bQT (by repeat (first | (with_reducible first | exact HB.out | apply bQA | apply bQN | apply bQ1) | exact HB.out)) hb); clear HB; have HB := n0_; clear n0_; (try clear hb); (try clear hb2); (try clear hk); (try clear hi)))
   go_ret2
   exact ⟨by first | rfl | (simp [errW_none, errW_some] <;> rfl) | (simp [*, errW_none, errW_some] <;> rfl), by repeat (first | (with_reducible first | exact HB.out | apply bQA | apply bQN | apply bQ1) | exact HB.out)⟩
  ·rw [if_neg c4] at H
   have c4b0 : ((l0.length : Int) == 1) = false := beq_eq_false_iff_ne.mpr c4
   have c4b1 : ((l0.length : Int) != 1) = true := bne_iff_ne.mpr c4
   have H' := Aq.mk H
   clear H
   go_enter Try.func50, Try.ntmps50
   go_wp2_with (first | ((with_reducible refine gQc (f := 38) rfl ?_); refine goesL_ (some 11) rfl rfl Try.func38 (by kernel_rfl) rfl #[.slice A0 l0.length c0] rfl (by (try simp only [List.map_toArray, List.map_cons, List.map_nil]); first | done | rfl | (simp only [List.length_drop, List.length_take]; rfl)) ?_; (with_reducible refine (impl_ValidSpaces.calls k _ _ l0 true _ ?side1 ?side2 A2.out).mono ?_); (case side1 => repeat (first | exact HR0.out | (with_reducible refine Kd.CqA ?_ _) | (with_reducible refine Kd.CqN ?_ _) | (with_reducible refine Kd.CqD ?_))); (case side2 => exact HC0.out); rintro e w6 ⟨rfl, hb⟩; refine ⟨_, rfl, ?_⟩; have n0_ := Aq.mk (bQT (by repeat (first | (with_reducible first | exact HB.out | apply bQA | apply bQN | apply bQ1) | exact HB.out)) hb); clear HB; have HB := n0_; clear n0_; (try clear hb); (try clear hb2); (try clear hk); (try clear hi)))
   go_loopg [4, 19] k (fun kq v4 v19 w' => ∃ (x4_1 : Int) (x19_1 : Int), v4 = .int .i64 x4_1 ∧ v19 = .int .i64 x19_1 ∧ Aq (impl_LeastSpaceDistance.l0 kq l0 x4_1 l0 (l0.length : Int) x19_1 = some (r1, r2)) ∧ Aq (kq ≤ k) ∧ Aq (Below w.heap.size w w'))
   case atStart => exact ⟨(20), (0), (by first | rfl | (simp; done) | (simp [*]; done)), (by first | rfl | (simp; done) | (simp [*]; done)), H', ⟨Nat.le_refl _⟩, ⟨by repeat (first | (with_reducible first | exact HB.out | apply bQA | apply bQN | apply bQ1) | exact HB.out)⟩⟩
   case round =>
    clear H'
    try clear p2
    try clear c3
    try clear c4
    try clear c4b0
    try clear c4b1
    try clear c5
    obtain ⟨x4_1, x19_1, rfl, rfl, HA, HK1, HB⟩ := hrel
    cases gk with
    | zero => exact absurd HA.out (by simp [impl_LeastSpaceDistance.l0])
    | succ k1 =>
     have H := HA.out
     clear HA
     simp only [impl_LeastSpaceDistance.l0] at H
     by_cases c7 : x19_1 < (l0.length : Int)
     ·rw [if_pos c7] at H
      have c7b0 : decide (x19_1 < (l0.length : Int)) = true := decide_eq_true c7
      clear c7
      by_cases c8 : 0 ≤ x19_1
      ·rw [if_pos c8] at H
       have c8b0 : decide (0 ≤ x19_1) = true := decide_eq_true c8
       clear c8
       by_cases c9 : x19_1 < (l0.length : Int)
       ·rw [if_pos c9] at H
        have c9b0 : decide (x19_1 < (l0.length : Int)) = true := decide_eq_true c9
        clear c9
        have c10b0 := eq_true (of_decide_eq_true (by first | (with_reducible assumption) | assumption) : 0 ≤ x19_1)
        by_cases c11 : x19_1 ≤ (l0.length : Int)
        ·rw [if_pos c11] at H
         have c11b0 := eq_true c11
         have c11b1 : decide (x19_1 ≤ (l0.length : Int)) = true := decide_eq_true c11
         clear c11
         obtain ⟨y1132, hy1132⟩ : ∃ y_ : List (S26), y_ = (l0.take (x19_1 : Int).toNat) := ⟨_, rfl⟩
         replace H : (impl_LeastSpaceDistance.l1 k1 l0 x4_1 l0 (l0.length : Int) x19_1 y1132 (y1132.length : Int) 0 ((rd_T26 l0 x19_1).f0) ((rd_T26 l0 x19_1).f1)) = some (r1, r2) := by first | (rw [hy1132]; with_reducible exact H) | (have H2_ := (Option.bind_some _ _).symm.trans H; rw [hy1132]; with_reducible exact H2_) | (have H2_ := (Option.bind_some _ _).symm.trans H; with_reducible exact H2_) | with_reducible exact H | (rw [hy1132]; exact H) | exact H
         have Ny1132 := Aq.mk hy1132
         clear hy1132
         have H' := Aq.mk H
         clear H
         have p1130 : 0 ≤ (x19_1 : Int) := of_decide_eq_true (by first | (with_reducible assumption) | assumption)
         have q1130 : x19_1 < (l0.length : Int) := of_decide_eq_true (by first | (with_reducible assumption) | assumption)
         obtain ⟨ad1130, A1130_1, c1130_1, e1130, hx1130_0, hx1130_1, hl1130_1, hi1130_1⟩ := at_T26 HR0.out x19_1 p1130 q1130
         cases e1130
         replace hx1130_0 := (HB.out.cell (World.block_lt_of_cell? w _ hx1130_0)).trans hx1130_0
         replace hx1130_1 := (HB.out.cell (World.block_lt_of_cell? w _ hx1130_1)).trans hx1130_1
         have HR1130_1 := Aq.mk hi1130_1
         have HC1130_1 := Aq.mk hl1130_1
         clear hi1130_1 hl1130_1
         replace p1130 := eq_true p1130
         replace q1130 := eq_true q1130
         go_wp2_with (first | ((with_reducible refine gQd (N := 6) rfl ?_); refine xQe ?hg (N := 6) ?hd (cs := #[.int .i64 0, .slice none 0 0]) (t := 26) ?hr ?_; (case hd => rfl); (case hg => rfl); (case hr => first | (go_simp; done) | (go_simp; rfl)); intro gb1131 hg w12 hbox hb; have n0_ := Aq.mk (bQT (by repeat (first | (with_reducible first | exact HB.out | apply bQA | apply bQN | apply bQ1) | exact HB.out)) hb); have n1_ := Aq.mk (hbox); have n2_ := Aq.mk ((by rw [hg]; exact (bQZ (by repeat (first | (with_reducible first | exact HB.out | apply bQA | apply bQN | apply bQ1) | exact HB.out))) : w.heap.size ≤ gb1131)); have n3_ := Aq.mk ((by rw [hg]; exact (bQZ (by repeat (first | (with_reducible first | exact HB.out | apply bQA | apply bQN | apply bQ1) | exact HB.out))) : w.heap.size ≤ gb1131)); clear HB; have HB := n0_; have BK1131 := n1_; have GW1131 := n2_; have GE1131 := n3_; clear n0_ n1_ n2_ n3_; clear hb hbox hg; have hcz13_0 : w12.cell? ⟨gb1131, 0, none⟩ = some (.int .i64 0) := (kQC BK1131.out 0).trans rfl; have hcz13_1 : w12.cell? ⟨gb1131, 1, none⟩ = some (.slice none 0 0) := (kQC BK1131.out 1).trans rfl; have hfz13_0 := kQF BK1131.out 0; have hfz13_1 := kQF BK1131.out 1) | ((with_reducible refine gate_store (t := 26) (p := 6) rfl ?_); refine store_event (t := 26) (p := 6) (v := ?vo_w14) (w1 := ((w12.setCell ⟨gb1131, 0, none⟩ (.int .i64 ((rd_T26 l0 x19_1).f0))).setCell ⟨gb1131, 1, none⟩ (.slice A1130_1 ((rd_T26 l0 x19_1).f1).length c1130_1))) ?hg ?ho ?hn ?hr ?_; (case ho => rfl); (case hg => rfl); (case hn => rfl); (case hr => first | (go_simp; done) | (go_simp; rfl)); intro w14 hw; have n0_ : Aq (w14.heap[gb1131]? = some (.cells #[.int .i64 ((rd_T26 l0 x19_1).f0), .slice A1130_1 ((rd_T26 l0 x19_1).f1).length c1130_1] 26 (0, 0))) := ⟨(by rw [hw]; exact (by (with_reducible repeat (first | refine kQN ?_ _ | refine kQD ?_ | refine kQA ?_ _)); refine kQP (cs := #[.int .i64 ((rd_T26 l0 x19_1).f0), .slice none 0 0]) ?_ 1 _ rfl; (with_reducible repeat (first | refine kQN ?_ _ | refine kQD ?_ | refine kQA ?_ _)); refine kQP (cs := #[.int .i64 0, .slice none 0 0]) ?_ 0 _ rfl; (with_reducible repeat (first | refine kQN ?_ _ | refine kQD ?_ | refine kQA ?_ _)); exact BK1131.out))⟩; have n1_ : Aq (Below w.heap.size w w14) := ⟨(by rw [hw]; exact (by repeat (first | (with_reducible first | exact HB.out | apply bQA | apply bQN | apply bQ1 | refine bQS ?_ GE1131.out) | exact HB.out)))⟩; clear hw; clear BK1131; clear HB; have BK1131 := n0_; have HB := n1_; clear n0_ n1_; have q15 : (x19_1 : Int) ≤ ((l0.length : Int) : Int) := of_decide_eq_true (by first | (with_reducible assumption) | assumption); obtain ⟨i015, hi015, _, hsz15, _⟩ := info_parts info26; have hroom15 : l0.length ≤ c0 := HC0.out; have hC15 : Kd.C k26 _ (some ad1130) l0.length l0 := HR0.out; have hcut15 := cut_to (P := Try.prog) 47 26 .i64 Try.underlying47 hi015 (some ad1130) l0.length c0 x19_1 (of_decide_eq_true (by first | (with_reducible assumption) | assumption)) q15 hroom15; have hr15 := Kd.C_take (m := (x19_1 : Int).toNat) hC15 (by omega); have hy15 : y1132.length = (x19_1 : Int).toNat := (by rw [Ny1132.out, List.length_take]; omega); rw [← Ny1132.out] at hr15; rw [← hy15] at hcut15; have HR1135 := Aq.mk hr15; have HC1135 := Aq.mk (show y1132.length ≤ c0 from by omega); clear hr15 hC15 hroom15 hi015 hsz15; have KY15 := Aq.mk hy15; clear hy15; replace q15 := eq_true q15))
         go_loopg [4, 28] k1 (fun kq v4 v28 w' => ∃ (x4_2 : Int) (x28_2 : Int), v4 = .int .i64 x4_2 ∧ v28 = .int .i64 x28_2 ∧ Aq (impl_LeastSpaceDistance.l1 kq l0 x4_2 l0 (l0.length : Int) x19_1 y1132 (y1132.length : Int) x28_2 ((rd_T26 l0 x19_1).f0) ((rd_T26 l0 x19_1).f1) = some (r1, r2)) ∧ Aq (kq ≤ k1) ∧ Aq (w'.heap[gb1131]? = some (.cells #[.int .i64 ((rd_T26 l0 x19_1).f0), (.slice A1130_1 ((rd_T26 l0 x19_1).f1).length c1130_1)] 26 (0, 0))) ∧ Aq (Below w.heap.size w w'))
         case atStart => exact ⟨(x4_1), (0), (by first | rfl | (simp; done) | (simp [*]; done)), (by first | rfl | (simp; done) | (simp [*]; done)), H', ⟨Nat.le_refl _⟩, ⟨by (with_reducible repeat (first | refine kQN ?_ _ | refine kQD ?_ | refine kQA ?_ _)); exact BK1131.out⟩, ⟨by repeat (first | (with_reducible first | exact HB.out | apply bQA | apply bQN | apply bQ1 | refine bQS ?_ GE1131.out) | exact HB.out)⟩⟩
         case round =>
          clear H'
          try clear c1
          try clear p1
          try clear q1
          try clear hx1
          try clear p2
          try clear c3
          try clear c4
          try clear c4b0
          try clear c4b1
          try clear c5
          try clear c7
          try clear c7b0
          try clear c8
          try clear c8b0
          try clear c9
          try clear c9b0
          try clear c10
          try clear c10b0
          try clear c11
          try clear c11b0
          try clear c11b1
          try clear p11
          try clear q11
          try clear hx11
          try clear q15
          try clear hcz13_0
          try clear hcz13_1
          try clear hfz13_0
          try clear hfz13_1
          try clear hx1130_0
          try clear hx1130_1
          try clear p1130
          try clear p2
          try clear q1130
          try clear q15
          obtain ⟨x4_2, x28_2, rfl, rfl, HA, HK2, BK1131, HB⟩ := hrel
          cases gk with
          | zero => exact absurd HA.out (by simp [impl_LeastSpaceDistance.l1])
          | succ k2 =>
           have H := HA.out
           clear HA
           simp only [impl_LeastSpaceDistance.l1] at H
           by_cases c16 : x28_2 < (y1132.length : Int)
           ·rw [if_pos c16] at H
            have c16b0 : decide (x28_2 < (y1132.length : Int)) = true := decide_eq_true c16
            clear c16
            by_cases c17 : 0 ≤ x28_2
            ·rw [if_pos c17] at H
             have c17b0 : decide (0 ≤ x28_2) = true := decide_eq_true c17
             clear c17
             by_cases c18 : x28_2 < (y1132.length : Int)
             ·rw [if_pos c18] at H
              have c18b0 : decide (x28_2 < (y1132.length : Int)) = true := decide_eq_true c18
              clear c18
              replace H := Option.bind_eq_some_iff.mp H
              obtain ⟨t1138, A190, H⟩ := H
              replace H : (impl_LeastSpaceDistance.l1 k2 l0 (mn x4_2 t1138) l0 (l0.length : Int) x19_1 y1132 (y1132.length : Int) (wrap64 (x28_2 + 1)) ((rd_T26 l0 x19_1).f0) ((rd_T26 l0 x19_1).f1)) = some (r1, r2) := H
              have A19 := Aq.mk A190
              clear A190
              obtain ⟨ji20, hji20⟩ : ∃ j_ : Int, (mn x4_2 t1138) = j_ := ⟨_, rfl⟩
              replace H : (impl_LeastSpaceDistance.l1 k2 l0 ji20 l0 (l0.length : Int) x19_1 y1132 (y1132.length : Int) (wrap64 (x28_2 + 1)) ((rd_T26 l0 x19_1).f0) ((rd_T26 l0 x19_1).f1)) = some (r1, r2) := by first | (rw [hji20] at H; exact H) | (simp only [hji20] at H ⊢; exact H)
              (try rw [hji20] at A19)
              have hji20_ : (if t1138 < x4_2 then t1138 else x4_2) = ji20 := hji20
              have H' := Aq.mk H
              clear H
              have p1136 : 0 ≤ (x28_2 : Int) := of_decide_eq_true (by first | (with_reducible assumption) | assumption)
              have q1136 : x28_2 < (y1132.length : Int) := of_decide_eq_true (by first | (with_reducible assumption) | assumption)
              obtain ⟨ad1136, A1136_1, c1136_1, e1136, hx1136_0, hx1136_1, hl1136_1, hi1136_1⟩ := at_T26 HR1135.out x28_2 p1136 q1136
              obtain rfl : ad1130 = ad1136 := (by injection e1136)
              replace hx1136_0 := (HB.out.cell (World.block_lt_of_cell? w _ hx1136_0)).trans hx1136_0
              replace hx1136_1 := (HB.out.cell (World.block_lt_of_cell? w _ hx1136_1)).trans hx1136_1
              have HR1136_1 := Aq.mk hi1136_1
              have HC1136_1 := Aq.mk hl1136_1
              clear hi1136_1 hl1136_1
              replace p1136 := eq_true p1136
              replace q1136 := eq_true q1136
              go_wp2_with (first | ((with_reducible refine gQd (N := 8) rfl ?_); refine xQe ?hg (N := 8) ?hd (cs := #[.int .i64 0, .slice none 0 0]) (t := 26) ?hr ?_; (case hd => rfl); (case hg => rfl); (case hr => first | (go_simp; done) | (go_simp; rfl)); intro gb1137 hg w21 hbox hb; have n0_ := Aq.mk (kQB (g := gb1131) (o := .cells #[.int .i64 ((rd_T26 l0 x19_1).f0), .slice A1130_1 ((rd_T26 l0 x19_1).f1).length c1130_1] 26 (0, 0)) (by (with_reducible repeat (first | refine kQN ?_ _ | refine kQD ?_ | refine kQA ?_ _)); exact BK1131.out) hb); have n1_ := Aq.mk (bQT (by repeat (first | (with_reducible first | exact HB.out | apply bQA | apply bQN | apply bQ1 | refine bQS ?_ GE1131.out) | exact HB.out)) hb); have n2_ := Aq.mk (hbox); have n3_ := Aq.mk ((by rw [hg]; exact (bQZ (by repeat (first | (with_reducible first | exact HB.out | apply bQA | apply bQN | apply bQ1 | refine bQS ?_ GE1131.out) | exact HB.out))) : w.heap.size ≤ gb1137)); have n4_ := Aq.mk ((by rw [hg]; exact (bQZ (by repeat (first | (with_reducible first | exact HB.out | apply bQA | apply bQN | apply bQ1 | refine bQS ?_ GE1131.out) | exact HB.out))) : w.heap.size ≤ gb1137)); have n5_ := Aq.mk ((by rw [hg]; exact Nat.ne_of_lt (blk_lt (g := gb1131) (o := .cells #[.int .i64 ((rd_T26 l0 x19_1).f0), .slice A1130_1 ((rd_T26 l0 x19_1).f1).length c1130_1] 26 (0, 0)) (by (with_reducible repeat (first | refine kQN ?_ _ | refine kQD ?_ | refine kQA ?_ _)); exact BK1131.out)) : gb1131 ≠ gb1137)); have n6_ := Aq.mk ((by rw [hg]; exact Nat.ne_of_gt (blk_lt (g := gb1131) (o := .cells #[.int .i64 ((rd_T26 l0 x19_1).f0), .slice A1130_1 ((rd_T26 l0 x19_1).f1).length c1130_1] 26 (0, 0)) (by (with_reducible repeat (first | refine kQN ?_ _ | refine kQD ?_ | refine kQA ?_ _)); exact BK1131.out)) : gb1137 ≠ gb1131)); clear BK1131; clear HB; have BK1131 := n0_; have HB := n1_; have BK1137 := n2_; have GW1137 := n3_; have GE1137 := n4_; have NB1131_1137 := n5_; have NB1137_1131 := n6_; clear n0_ n1_ n2_ n3_ n4_ n5_ n6_; clear hb hbox hg; have hnb22 := NB1137_1131.out; have hnc22 := NB1131_1137.out; have hcz23_0 : w21.cell? ⟨gb1137, 0, none⟩ = some (.int .i64 0) := (kQC BK1137.out 0).trans rfl; have hcz23_1 : w21.cell? ⟨gb1137, 1, none⟩ = some (.slice none 0 0) := (kQC BK1137.out 1).trans rfl; have hfz23_0 := kQF BK1137.out 0; have hfz23_1 := kQF BK1137.out 1; have hcz24_0 : w21.cell? ⟨gb1131, 0, none⟩ = some (.int .i64 ((rd_T26 l0 x19_1).f0)) := (kQC BK1131.out 0).trans rfl; have hcz24_1 : w21.cell? ⟨gb1131, 1, none⟩ = some (.slice A1130_1 ((rd_T26 l0 x19_1).f1).length c1130_1) := (kQC BK1131.out 1).trans rfl; have hfz24_0 := kQF BK1131.out 0; have hfz24_1 := kQF BK1131.out 1) | ((with_reducible refine gQc (f := 77) rfl ?_); refine goesL_ (some 35) rfl rfl Try.func77 (by kernel_rfl) rfl #[.agg #[.int .i64 ((rd_T26 l0 x19_1).f0), .slice A1130_1 ((rd_T26 l0 x19_1).f1).length c1130_1], .agg #[.int .i64 ((rd_T26 y1132 x28_2).f0), .slice A1136_1 ((rd_T26 y1132 x28_2).f1).length c1136_1]] rfl (by (try simp only [List.map_toArray, List.map_cons, List.map_nil]); first | done | rfl | (simp only [List.length_drop, List.length_take]; rfl)) ?_; (with_reducible refine (impl_Matrix_distance.calls k2 ((rd_T26 l0 x19_1).f0) _ _ ((rd_T26 l0 x19_1).f1) ((rd_T26 y1132 x28_2).f0) _ _ ((rd_T26 y1132 x28_2).f1) t1138 _ ?side1 ?side2 ?side3 ?side4 A19.out).mono ?_); (case side1 => exact Kd.C_below HR1130_1.out (by repeat (first | (with_reducible first | exact HB.out | apply bQA | apply bQN | apply bQ1 | refine bQS ?_ GE1131.out | refine bQS ?_ GE1137.out) | exact HB.out))); (case side2 => exact HC1130_1.out); (case side3 => exact Kd.C_below HR1136_1.out (by repeat (first | (with_reducible first | exact HB.out | apply bQA | apply bQN | apply bQ1 | refine bQS ?_ GE1131.out | refine bQS ?_ GE1137.out) | exact HB.out))); (case side4 => exact HC1136_1.out); rintro e w25 ⟨rfl, hb⟩; refine ⟨_, rfl, ?_⟩; have n0_ := Aq.mk (kQB (g := gb1131) (o := .cells #[.int .i64 ((rd_T26 l0 x19_1).f0), .slice A1130_1 ((rd_T26 l0 x19_1).f1).length c1130_1] 26 (0, 0)) (by (with_reducible repeat (first | refine kQN ?_ _ | refine kQD ?_ | refine kQA ?_ _)); refine kQR ?_ NB1131_1137.out _; (with_reducible repeat (first | refine kQN ?_ _ | refine kQD ?_ | refine kQA ?_ _)); refine kQR ?_ NB1131_1137.out _; (with_reducible repeat (first | refine kQN ?_ _ | refine kQD ?_ | refine kQA ?_ _)); exact BK1131.out) hb); have n1_ := Aq.mk (kQB (g := gb1137) (o := .cells #[.int .i64 ((rd_T26 y1132 x28_2).f0), .slice A1136_1 ((rd_T26 y1132 x28_2).f1).length c1136_1] 26 (0, 0)) (by (with_reducible repeat (first | refine kQN ?_ _ | refine kQD ?_ | refine kQA ?_ _)); refine kQP (cs := #[.int .i64 ((rd_T26 y1132 x28_2).f0), .slice none 0 0]) ?_ 1 _ rfl; (with_reducible repeat (first | refine kQN ?_ _ | refine kQD ?_ | refine kQA ?_ _)); refine kQP (cs := #[.int .i64 0, .slice none 0 0]) ?_ 0 _ rfl; (with_reducible repeat (first | refine kQN ?_ _ | refine kQD ?_ | refine kQA ?_ _)); exact BK1137.out) hb); have n2_ := Aq.mk (bQT (by repeat (first | (with_reducible first | exact HB.out | apply bQA | apply bQN | apply bQ1 | refine bQS ?_ GE1131.out | refine bQS ?_ GE1137.out) | exact HB.out)) hb); clear BK1131; clear BK1137; clear HB; have BK1131 := n0_; have BK1137 := n1_; have HB := n2_; clear n0_ n1_ n2_; (try clear hb); (try clear hb2); (try clear hk); (try clear hi)))
              go_roundg k2
              case measure => have := HK1.out; have := HK2.out; omega
              case rel => exact ⟨(ji20), (wrap64 (x28_2 + 1)), (by first | rfl | (simp; done) | (simp only [← hji20] <;> (first | rfl | simp)) | (simp [*]; done)), (by first | rfl | (simp; done) | (simp [*]; done)), H', ⟨by have := HK1.out; have := HK2.out; omega⟩, ⟨by (with_reducible repeat (first | refine kQN ?_ _ | refine kQD ?_ | refine kQA ?_ _)); exact BK1131.out⟩, ⟨by repeat (first | (with_reducible first | exact HB.out | apply bQA | apply bQN | apply bQ1 | refine bQS ?_ GE1131.out | refine bQS ?_ GE1137.out) | exact HB.out)⟩⟩
             ·rw [if_neg c18] at H
              exact absurd H (by simp)
            ·rw [if_neg c17] at H
             exact absurd H (by simp)
           ·rw [if_neg c16] at H
            have c16b0 : decide (x28_2 < (y1132.length : Int)) = false := decide_eq_false c16
            clear c16
            have H' := Aq.mk H
            clear H
            go_wp2
            go_roundg k2
            case measure => have := HK1.out; have := HK2.out; omega
            case rel => exact ⟨(x4_2), (wrap64 (x19_1 + 1)), (by first | rfl | (simp; done) | (simp [*]; done)), (by first | rfl | (simp; done) | (simp [*]; done)), H', ⟨by have := HK1.out; have := HK2.out; omega⟩, ⟨by repeat (first | (with_reducible first | exact HB.out | apply bQA | apply bQN | apply bQ1 | refine bQS ?_ GE1131.out) | exact HB.out)⟩⟩
        ·rw [if_neg c11] at H
         exact absurd H (by simp)
       ·rw [if_neg c9] at H
        exact absurd H (by simp)
      ·rw [if_neg c8] at H
       exact absurd H (by simp)
     ·rw [if_neg c7] at H
      have c7b0 : decide (x19_1 < (l0.length : Int)) = false := decide_eq_false c7
      clear c7
      simp only [Option.some.injEq, Prod.mk.injEq] at H
      obtain ⟨rfl, rfl⟩ := H
      go_wp2
      go_ret2
      exact ⟨by first | rfl | (simp [errW_none, errW_some] <;> rfl) | (simp [*, errW_none, errW_some] <;> rfl), by repeat (first | (with_reducible first | exact HB.out | apply bQA | apply bQN | apply bQ1) | exact HB.out)⟩
 ·replace c3 := Bool.eq_false_iff.mpr c3
  subst c3
  have H1 : (some (0, 1)) = some (r1, r2) := by rw [if_neg (show ¬ (false = true) by decide)] at H; exact H
  clear H
  have H := H1
  clear H1
  simp only [Option.some.injEq, Prod.mk.injEq] at H
  obtain ⟨rfl, rfl⟩ := H
  go_enter Try.func50, Try.ntmps50
  go_wp2_with (first | ((with_reducible refine gQc (f := 38) rfl ?_); refine goesL_ (some 11) rfl rfl Try.func38 (by kernel_rfl) rfl #[.slice A0 l0.length c0] rfl (by (try simp only [List.map_toArray, List.map_cons, List.map_nil]); first | done | rfl | (simp only [List.length_drop, List.length_take]; rfl)) ?_; (with_reducible refine (impl_ValidSpaces.calls k _ _ l0 false _ ?side1 ?side2 A2.out).mono ?_); (case side1 => repeat (first | exact HR0.out | (with_reducible refine Kd.CqA ?_ _) | (with_reducible refine Kd.CqN ?_ _) | (with_reducible refine Kd.CqD ?_))); (case side2 => exact HC0.out); rintro e w26 ⟨rfl, hb⟩; refine ⟨_, rfl, ?_⟩; have n0_ := Aq.mk (bQT (by repeat (first | (with_reducible first | exact HB.out | apply bQA | apply bQN | apply bQ1) | exact HB.out)) hb); clear HB; have HB := n0_; clear n0_; (try clear hb); (try clear hb2); (try clear hk); (try clear hi)))
  go_ret2
  exact ⟨by first | rfl | (simp [errW_none, errW_some] <;> rfl) | (simp [*, errW_none, errW_some] <;> rfl), by repeat (first | (with_reducible first | exact HB.out | apply bQA | apply bQN | apply bQ1) | exact HB.out)⟩
end Go.Proofs.Ytbaicdgkpnbipaa.P
