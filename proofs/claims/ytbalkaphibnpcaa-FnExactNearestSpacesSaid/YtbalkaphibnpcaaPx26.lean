/- Functions of the program and what they tell, as the printing program wrote it. -/
import Derived.Test.YtbalkaphibnpcaaPx0
import Derived.Test.YtbalkaphibnpcaaPx1
import Derived.Test.YtbalkaphibnpcaaPx24
import Derived.Test.YtbalkaphibnpcaaPx25
namespace Go.Proofs.Ytbalkaphibnpcaa.P
open Go.Shelf Go.RowKit Go.Proofs.YtbalkaphibnpcaaW.PrintWords Go.Proofs.YtbalkaphibnpcaaW.PrintLast Go.Proofs.YtbalkaphibnpcaaW.PrintMore
attribute [local go_sem] max2_int min2_int max_two min_two max_three min_three max_four min_four
set_option linter.unusedVariables false
set_option linter.unusedSimpArgs false
set_option maxHeartbeats 8000000
set_option maxRecDepth 100000
mutual
def impl_ValidSpaces.l0 : Nat → List (S63) → List (S63) → Int → Int → Option (Bool)
  | 0, _, _, _, _ => none
  | k + 1, x0, x11, x12, x13 => if x13 < x12 then (if 0 ≤ x13 then (if x13 < (x11.length : Int) then ((impl_IsSpace.f k ((rd_T63 x11 x13).f0) ((rd_T63 x11 x13).f1)).bind fun t667 => (if t667 = true then (if 0 < (x0.length : Int) then (if ((rd_T63 x11 x13).f0) = ((rd_T63 x0 0).f0) then (impl_ValidSpaces.j1 k x0 x13 x11 x12 x13 ((((rd_T63 x11 x13).f1).length : Int) != (((rd_T63 x0 0).f1).length : Int)) ((rd_T63 x11 x13).f0) ((rd_T63 x11 x13).f1)) else (impl_ValidSpaces.j1 k x0 x13 x11 x12 x13 true ((rd_T63 x11 x13).f0) ((rd_T63 x11 x13).f1))) else (none)) else (impl_ValidSpaces.j1 k x0 x13 x11 x12 x13 true ((rd_T63 x11 x13).f0) ((rd_T63 x11 x13).f1)))) else (none)) else (none)) else (some true)
def impl_ValidSpaces.j1 : Nat → List (S63) → Int → List (S63) → Int → Int → Bool → Int → List Int → Option (Bool)
  | 0, _, _, _, _, _, _, _, _ => none
  | k + 1, x0, x3, x11, x12, x13, x40, x667000, x667001 => if x40 = true then (some false) else (if 0 ≤ x3 then (if x3 ≤ (x0.length : Int) then ((some (x0.take (x3 : Int).toNat : List (S63))).bind fun y670 => (impl_ValidSpaces.l1 k x0 x11 x12 x13 y670 (y670.length : Int) 0 x667000 x667001)) else (none)) else (none))
def impl_ValidSpaces.l1 : Nat → List (S63) → List (S63) → Int → Int → List (S63) → Int → Int → Int → List Int → Option (Bool)
  | 0, _, _, _, _, _, _, _, _, _ => none
  | k + 1, x0, x11, x12, x13, x43, x44, x45, x667000, x667001 => if x45 < x44 then (if 0 ≤ x45 then (if x45 < (x43.length : Int) then ((impl_SameMatrix.f k x667000 x667001 ((rd_T63 x43 x45).f0) ((rd_T63 x43 x45).f1)).bind fun t676 => (if t676 = true then (some false) else (impl_ValidSpaces.l1 k x0 x11 x12 x13 x43 x44 (wrap64 (x45 + 1)) x667000 x667001))) else (none)) else (none)) else (impl_ValidSpaces.l0 k x0 x11 x12 (wrap64 (x13 + 1)))
end
def impl_ValidSpaces.f (k : Nat) (l0 : List (S63)) : Option (Bool) := (impl_Matrix.f l0).bind fun t663 => ((impl_within.f t663 1 400).bind fun t664 => (if t664 = true then (impl_ValidSpaces.l0 k l0 l0 (l0.length : Int) 0) else (some false)))
theorem impl_ValidSpaces.mono_l : ∀ k, (∀ y0 y1 y2 y3, LeO (impl_ValidSpaces.l0 k y0 y1 y2 y3) (impl_ValidSpaces.l0 (k + 1) y0 y1 y2 y3)) ∧ (∀ y0 y1 y2 y3 y4 y5 y6 y7, LeO (impl_ValidSpaces.j1 k y0 y1 y2 y3 y4 y5 y6 y7) (impl_ValidSpaces.j1 (k + 1) y0 y1 y2 y3 y4 y5 y6 y7)) ∧ (∀ y0 y1 y2 y3 y4 y5 y6 y7 y8, LeO (impl_ValidSpaces.l1 k y0 y1 y2 y3 y4 y5 y6 y7 y8) (impl_ValidSpaces.l1 (k + 1) y0 y1 y2 y3 y4 y5 y6 y7 y8))
 | 0 => ⟨fun _ _ _ _ r h => by simp [impl_ValidSpaces.l0] at h, fun _ _ _ _ _ _ _ _ r h => by simp [impl_ValidSpaces.j1] at h, fun _ _ _ _ _ _ _ _ _ r h => by simp [impl_ValidSpaces.l1] at h⟩
 | k + 1 => by
  obtain ⟨ih0, ih1, ih2⟩ := impl_ValidSpaces.mono_l k
  refine ⟨?_, ?_, ?_⟩ <;> intros <;> first | unfold impl_ValidSpaces.l0 | unfold impl_ValidSpaces.j1 | unfold impl_ValidSpaces.l1
  all_goals repeat' first
   | (with_reducible first | apply ih0 | apply ih1 | apply ih2 | apply impl_IsSpace.mono | apply impl_SameMatrix.mono | exact LeO.refl _ | exact LeO.none _ | refine LeO.ite ?_ ?_ | refine LeO.bind ?_ (fun _ => ?_))
   | exact LeO.none _
   | refine LeO.ite ?_ ?_
   | refine LeO.bind ?_ (fun _ => ?_)
theorem impl_ValidSpaces.mono : ∀ a0 k, LeO (impl_ValidSpaces.f k a0) (impl_ValidSpaces.f (k + 1) a0) := by
 intro a0 k
 obtain ⟨ih0, ih1, ih2⟩ := impl_ValidSpaces.mono_l k
 unfold impl_ValidSpaces.f
 repeat' first
  | (with_reducible first | apply ih0 | apply ih1 | apply ih2 | apply impl_IsSpace.mono | apply impl_SameMatrix.mono | exact LeO.refl _ | exact LeO.none _ | refine LeO.ite ?_ ?_ | refine LeO.bind ?_ (fun _ => ?_))
  | exact LeO.none _
  | refine LeO.ite ?_ ?_
  | refine LeO.bind ?_ (fun _ => ?_)
def impl_ValidSpaces.T6 : Bool × List (List Nat × List Nat) := (true, [([], []), ([0], [0]), ([1], [1]), ([2, 1], [2]), ([3], [3]), ([4, 3], [3, 4]), ([3], [3]), ([6, 3], [3, 6]), ([7, 3], [3, 7]), ([8, 3], [3, 8]), ([5, 9, 3], [3, 5, 9]), ([3, 10], [3, 10]), ([11, 3], [11]), ([12], [12]), ([13, 12], [12, 13]), ([14, 12], [12, 14]), ([12], [12]), ([16, 12], [12, 16]), ([17, 12], [12, 17]), ([18, 12], [12, 18]), ([19, 12], [12, 19]), ([15, 20, 12], [12, 15, 20]), ([12, 21], [12, 21])])
def impl_ValidSpaces.B6 : List Nat := [0, 1, 3, 7, 15, 31, 15, 79, 207, 463, 1023, 2047, 4095, 8191, 16383, 32767, 8191, 73727, 204799, 466943, 991231, 2097151, 4194303]
theorem impl_ValidSpaces.tab6 : rtab .any (opsOf Try.f55 6) = impl_ValidSpaces.T6 := by kernel_rfl
theorem impl_ValidSpaces.bits6 : waitsOk impl_ValidSpaces.T6.2 impl_ValidSpaces.B6 = true := by kernel_rfl
theorem impl_ValidSpaces.calls (k : Nat) (A0 : Option Addr) (c0 : Nat) (l0 : List (S63)) (r : Bool) (w : World) (hr0 : Kd.C k63 w A0 l0.length l0) (hc0 : l0.length ≤ c0) (h : impl_ValidSpaces.f k l0 = some r) :
 Calls Try.prog 55 #[.slice A0 l0.length c0] w fun e w' => e = .returned (.bool r) ∧ Below w.heap.size w w' := by
 have hu63 := Try.underlying63
 have HR0 := Aq.mk hr0
 have HC0 := Aq.mk hc0
 clear hr0 hc0
 have HB := Aq.mk (Below.refl w.heap.size w)
 have H : ((impl_Matrix.f l0).bind fun t663 => ((impl_within.f t663 1 400).bind fun t664 => (if t664 = true then (impl_ValidSpaces.l0 k l0 l0 (l0.length : Int) 0) else (some false)))) = some r := h
 clear h
 obtain ⟨t663, A2, H⟩ := qBd H
 obtain ⟨t664, A3, H⟩ := qBd H
 by_cases c4 : t664 = true
 rotate_left
 ·replace c4 := Bool.eq_false_iff.mpr c4
  subst c4
  rw [if_neg (show ¬ (false = true) by decide)] at H
  obtain rfl := Option.some.inj H
  go_enter Try.func55, Try.ntmps55
  go_wp2_with (first | ((with_reducible refine gQc (f := 84) rfl ?_); refine goesL_ (some 8) rfl rfl Try.func84 (by kernel_rfl) rfl #[.slice A0 l0.length c0] rfl tL ?_; (with_reducible refine (impl_Matrix.calls _ _ l0 t663 _ ?s1 ?s2 A2.out).mono ?_); (case s1 => exact tC HR0.out); (case s2 => exact HC0.out); rintro e w' ⟨rfl, ⟨nd, rfl⟩⟩; refine ⟨_, rfl, ?_⟩) | ((with_reducible refine gQc (f := 68) rfl ?_); refine goesL_ (some 9) rfl rfl Try.func68 (by kernel_rfl) rfl #[.int .i64 t663, .int .i64 1, .int .i64 400] rfl tL ?_; (with_reducible refine (impl_within.calls t663 1 400 false _ A3.out).mono ?_); rintro e w' ⟨rfl, ⟨nd, rfl⟩⟩; refine ⟨_, rfl, ?_⟩))
  go_ret
  exact ⟨tE, tB⟩
 subst c4
 rw [if_pos rfl] at H
 replace H' := Aq.mk H
 clear H
 go_enter Try.func55, Try.ntmps55
 go_wp2_with (first | ((with_reducible refine gQc (f := 84) rfl ?_); refine goesL_ (some 8) rfl rfl Try.func84 (by kernel_rfl) rfl #[.slice A0 l0.length c0] rfl tL ?_; (with_reducible refine (impl_Matrix.calls _ _ l0 t663 _ ?s1 ?s2 A2.out).mono ?_); (case s1 => exact tC HR0.out); (case s2 => exact HC0.out); rintro e w' ⟨rfl, ⟨nd, rfl⟩⟩; refine ⟨_, rfl, ?_⟩) | ((with_reducible refine gQc (f := 68) rfl ?_); refine goesL_ (some 9) rfl rfl Try.func68 (by kernel_rfl) rfl #[.int .i64 t663, .int .i64 1, .int .i64 400] rfl tL ?_; (with_reducible refine (impl_within.calls t663 1 400 true _ A3.out).mono ?_); rintro e w' ⟨rfl, ⟨nd, rfl⟩⟩; refine ⟨_, rfl, ?_⟩))
 go_loopg [13] k (fun kq v13 w' => ∃ (x13_1 : Int), v13 = .int .i64 x13_1 ∧ Aq (impl_ValidSpaces.l0 kq l0 l0 (l0.length : Int) x13_1 = some r) ∧ Aq (kq ≤ k) ∧ Aq (Below w.heap.size w w'))
 case atStart => exact ⟨(0), tS, H', ⟨Nat.le_refl _⟩, ⟨tB⟩⟩
 clear H'
 try clear c4
 obtain ⟨x13_1, rfl, HA, HK1, HB⟩ := hrel
 cases gk with
 | zero => exact absurd HA.out (by simp [impl_ValidSpaces.l0])
 | succ k1 =>
  have H := HA.out
  clear HA
  simp only [impl_ValidSpaces.l0] at H
  by_cases c5 : x13_1 < (l0.length : Int)
  rotate_left
  ·rw [if_neg c5] at H
   have c5b0 := decide_eq_false c5
   clear c5
   obtain rfl := Option.some.inj H
   go_wp2
   go_ret
   exact ⟨tE, tB⟩
  rw [if_pos c5] at H
  have c5b0 := decide_eq_true c5
  clear c5
  by_cases c6 : 0 ≤ x13_1
  rotate_left
  ·rw [if_neg c6] at H
   exact absurd H (by simp)
  rw [if_pos c6] at H
  have c6b0 := decide_eq_true c6
  clear c6
  by_cases c7 : x13_1 < (l0.length : Int)
  rotate_left
  ·rw [if_neg c7] at H
   exact absurd H (by simp)
  rw [if_pos c7] at H
  have c7b0 := decide_eq_true c7
  clear c7
  have HC8 := Aq.mk H
  clear H
  have p665 : 0 ≤ (x13_1 : Int) := of_decide_eq_true tA
  have q665 : x13_1 < (l0.length : Int) := of_decide_eq_true tA
  obtain ⟨ad665, A665_1, c665_1, e665, hx665_0, hx665_1, hl665_1, hi665_1⟩ := at_T63 HR0.out x13_1 p665 q665
  cases e665
  replace hx665_0 := (HB.out.cell (World.block_lt_of_cell? w _ hx665_0)).trans hx665_0
  replace hx665_1 := (HB.out.cell (World.block_lt_of_cell? w _ hx665_1)).trans hx665_1
  have HR665_1 := Aq.mk hi665_1
  have HC665_1 := Aq.mk hl665_1
  clear hi665_1 hl665_1
  replace p665 := eq_true p665
  replace q665 := eq_true q665
  go_upto_region 6 with (first | ((with_reducible refine gQd (N := 4) rfl ?_); (try (refine gate_guard (by rfl) ?_; dsimp only)); refine xQe ?hg (N := 4) ?hd (cs := #[.int .i64 0, .slice none 0 0]) (t := 63) ?hr ?_; (case hd => rfl); (case hg => rfl); (case hr => exact tH); intro gb666 hg w9 hbox hb; refine qM4 (bQT tB hb) hbox (tZ w hg) (tZ w hg) ?_; clear HB; intro HB BK666 GW666 GE666; clear hb hbox hg; have hcz10_0 : w9.cell? ⟨gb666, 0, none⟩ = some (.int .i64 0) := (kQC BK666.out 0).trans rfl; have hcz10_1 : w9.cell? ⟨gb666, 1, none⟩ = some (.slice none 0 0) := (kQC BK666.out 1).trans rfl; have hfz10_0 := kQF BK666.out 0; have hfz10_1 := kQF BK666.out 1))
  (try simp only [Act.put, qSa, qSb, qSc])
  go_cut [40] (fun v40 wc => ∃ (kq : Nat) (x40_7 : Bool), v40 = .bool x40_7 ∧ Aq (impl_ValidSpaces.j1 kq l0 x13_1 l0 (l0.length : Int) x13_1 x40_7 ((rd_T63 l0 x13_1).f0) ((rd_T63 l0 x13_1).f1) = some r) ∧ Aq (kq ≤ k1) ∧ Aq (wc.heap[gb666]? = some (.cells #[.int .i64 ((rd_T63 l0 x13_1).f0), (.slice A665_1 ((rd_T63 l0 x13_1).f1).length c665_1)] 63 (0, 0))) ∧ Aq (Below w.heap.size w wc))
  case first =>
   have H := HC8.out
   clear HC8
   obtain ⟨t667, A11, H⟩ := qBd H
   by_cases c12 : t667 = true
   rotate_left
   ·replace c12 := Bool.eq_false_iff.mpr c12
    subst c12
    rw [if_neg (show ¬ (false = true) by decide)] at H
    replace H' := Aq.mk H
    clear H
    try go_wp2
    have n0_ : Aq (((w9.setCell ⟨gb666, 0, none⟩ (.int .i64 ((rd_T63 l0 x13_1).f0))).setCell ⟨gb666, 1, none⟩ (.slice A665_1 ((rd_T63 l0 x13_1).f1).length c665_1)).heap[gb666]? = some (.cells #[.int .i64 ((rd_T63 l0 x13_1).f0), .slice A665_1 ((rd_T63 l0 x13_1).f1).length c665_1] 63 (0, 0))) := ⟨by (with_reducible repeat (first | refine kQN ?_ _ | refine kQD ?_ | refine kQA ?_ _)); refine kQP (cs := #[.int .i64 ((rd_T63 l0 x13_1).f0), .slice none 0 0]) ?_ 1 _ rfl; (with_reducible repeat (first | refine kQN ?_ _ | refine kQD ?_ | refine kQA ?_ _)); refine kQP (cs := #[.int .i64 0, .slice none 0 0]) ?_ 0 _ rfl; (with_reducible repeat (first | refine kQN ?_ _ | refine kQD ?_ | refine kQA ?_ _)); exact BK666.out⟩
    have n1_ : Aq (Below w.heap.size w ((w9.setCell ⟨gb666, 0, none⟩ (.int .i64 ((rd_T63 l0 x13_1).f0))).setCell ⟨gb666, 1, none⟩ (.slice A665_1 ((rd_T63 l0 x13_1).f1).length c665_1))) := ⟨tB⟩
    (try clear BK666)
    (try clear HB)
    generalize ((w9.setCell ⟨gb666, 0, none⟩ (.int .i64 ((rd_T63 l0 x13_1).f0))).setCell ⟨gb666, 1, none⟩ (.slice A665_1 ((rd_T63 l0 x13_1).f1).length c665_1)) = w21 at n0_ n1_ ⊢
    have BK666 := n0_
    have HB := n1_
    clear n0_ n1_
    have n0_ := Aq.mk (kQD BK666.out)
    have n1_ := Aq.mk (bQ1 HB.out)
    clear BK666
    clear HB
    have BK666 := n0_
    have HB := n1_
    clear n0_ n1_
    refine start_ (n := 23) (S := fun w' => w'.cell? ⟨gb666, 0, none⟩ = some (.int .i64 ((rd_T63 l0 x13_1).f0)) ∧ w'.cell? ⟨gb666, 1, none⟩ = some (.slice A665_1 ((rd_T63 l0 x13_1).f1).length c665_1)) (ds := []) #[false, false, false, false, false, false, false, false, false, false, false, false, false, false, false, false, false, false, false, false, false, false, false] (by kernel_rfl) rfl rfl ⟨(kQC BK666.out 0).trans rfl, (kQC BK666.out 1).trans rfl⟩ (fun hHeld => ?_); refine with_tabW impl_ValidSpaces.tab6 impl_ValidSpaces.bits6 (fun HT_ HW_ => ?_)
    generalize w21.drew = w22 at BK666 HB hHeld ⊢
    refine tT2 0 18 (bm 23 1) ?_
    refine one_ (i := 1) (N := some 19) (bm 23 3) rfl rfl (one_of HT_.out (by kernel_rfl)) (by decide) (fun K hK => ?_)
    refine goes_ Try.func59 (by kernel_rfl) rfl #[.agg #[.int .i64 ((rd_T63 l0 x13_1).f0), .slice A665_1 ((rd_T63 l0 x13_1).f1).length c665_1]] (by rfl) rfl rfl tL ?_
    with_reducible refine (impl_IsSpace.calls k1 ((rd_T63 l0 x13_1).f0) _ _ ((rd_T63 l0 x13_1).f1) false _ ?s1 ?s2 A11.out).mono ?_
    (case s1 => exact tC ((Kd.C_below HR665_1.out HB.out)))
    (case s2 => exact HC665_1.out)
    rintro e w23 ⟨rfl, hb⟩
    refine ⟨_, rfl, ?_⟩
    have n0_ := Aq.mk (tQ BK666.out hb)
    have n1_ := Aq.mk (bQT tB hb)
    clear BK666
    clear HB
    have BK666 := n0_
    have HB := n1_
    clear n0_ n1_
    (try clear hb)
    (try clear hb2)
    (try clear hk)
    (try clear hi)
    refine hK.out _ _ ⟨(kQC BK666.out 0).trans rfl, (kQC BK666.out 1).trans rfl⟩ (fun hHeld => ?_)
    clear hK K
    refine tN 19 ?_
    refine tP0 2 20 (bm 23 7) ?_
    refine tP0 3 21 (bm 23 15) ?_
    refine pure_ (i := 4) (N := some 22) (v := undef) (a' := ?_) #[true, true, true, true, true, false, false, false, false, false, false, false, false, false, false, false, false, false, false, false, false, false, false] rfl rfl (any_of HT_.out (by kernel_rfl)) (fun _ _ _ h => h) (Or.inr ⟨by rfl, rfl⟩) ?_ ?_
    rotate_left
    ·simp only [Act.put, qSa, qSb, qSc, i64_w, i32_w]
     rfl
    refine pure_ (i := 5) (N := some 23) (v := undef) (a' := ?_) #[true, true, true, true, true, true, false, false, false, false, false, false, false, false, false, false, false, false, false, false, false, false, false] rfl rfl (any_of HT_.out (by kernel_rfl)) (fun _ _ _ h => h) (Or.inr ⟨by rfl, rfl⟩) ?_ ?_
    rotate_left
    ·simp only [Act.put, qSa, qSb, qSc, i64_w, i32_w]
     rfl
    refine pure_ (i := 6) (N := some 24) (v := undef) (a' := ?_) #[true, true, true, true, true, true, true, false, false, false, false, false, false, false, false, false, false, false, false, false, false, false, false] rfl rfl (any_of HT_.out (by kernel_rfl)) (fun _ _ _ h => h) (Or.inr ⟨by rfl, rfl⟩) ?_ ?_
    rotate_left
    ·simp only [Act.put, qSa, qSb, qSc, i64_w, i32_w]
     rfl
    refine pure_ (i := 7) (N := some 25) (v := undef) (a' := ?_) #[true, true, true, true, true, true, true, true, false, false, false, false, false, false, false, false, false, false, false, false, false, false, false] rfl rfl (any_of HT_.out (by kernel_rfl)) (fun _ _ _ h => h) (Or.inr ⟨by rfl, rfl⟩) ?_ ?_
    rotate_left
    ·simp only [Act.put, qSa, qSb, qSc, i64_w, i32_w]
     rfl
    refine pure_ (i := 8) (N := some 26) (v := undef) (a' := ?_) #[true, true, true, true, true, true, true, true, true, false, false, false, false, false, false, false, false, false, false, false, false, false, false] rfl rfl (any_of HT_.out (by kernel_rfl)) (fun _ _ _ h => h) (Or.inr ⟨by rfl, rfl⟩) ?_ ?_
    rotate_left
    ·simp only [Act.put, qSa, qSb, qSc, i64_w, i32_w]
     rfl
    refine pure_ (i := 9) (N := some 27) (v := undef) (a' := ?_) #[true, true, true, true, true, true, true, true, true, true, false, false, false, false, false, false, false, false, false, false, false, false, false] rfl rfl (any_of HT_.out (by kernel_rfl)) (fun _ _ _ h => h) (Or.inr ⟨by rfl, rfl⟩) ?_ ?_
    rotate_left
    ·simp only [Act.put, qSa, qSb, qSc, i64_w, i32_w]
     rfl
    refine pure_ (i := 10) (N := some 28) (v := undef) (a' := ?_) #[true, true, true, true, true, true, true, true, true, true, true, false, false, false, false, false, false, false, false, false, false, false, false] rfl rfl (any_of HT_.out (by kernel_rfl)) (fun _ _ _ h => h) (Or.inr ⟨by rfl, rfl⟩) ?_ ?_
    rotate_left
    ·simp only [Act.put, qSa, qSb, qSc, i64_w, i32_w]
     rfl
    refine tP0 11 29 (bm 23 4095) ?_
    refine tP0 12 30 (bm 23 8191) ?_
    refine pure_ (i := 13) (N := some 31) (v := undef) (a' := ?_) #[true, true, true, true, true, true, true, true, true, true, true, true, true, true, false, false, false, false, false, false, false, false, false] rfl rfl (any_of HT_.out (by kernel_rfl)) (fun _ _ _ h => h) (Or.inr ⟨by rfl, rfl⟩) ?_ ?_
    rotate_left
    ·simp only [Act.put, qSa, qSb, qSc, i64_w, i32_w]
     rfl
    refine pure_ (i := 14) (N := some 32) (v := undef) (a' := ?_) #[true, true, true, true, true, true, true, true, true, true, true, true, true, true, true, false, false, false, false, false, false, false, false] rfl rfl (any_of HT_.out (by kernel_rfl)) (fun _ _ _ h => h) (Or.inr ⟨by rfl, rfl⟩) ?_ ?_
    rotate_left
    ·simp only [Act.put, qSa, qSb, qSc, i64_w, i32_w]
     rfl
    refine pure_ (i := 15) (N := some 33) (v := undef) (a' := ?_) #[true, true, true, true, true, true, true, true, true, true, true, true, true, true, true, true, false, false, false, false, false, false, false] rfl rfl (any_of HT_.out (by kernel_rfl)) (fun _ _ _ h => h) (Or.inr ⟨by rfl, rfl⟩) ?_ ?_
    rotate_left
    ·simp only [Act.put, qSa, qSb, qSc, i64_w, i32_w]
     rfl
    refine pure_ (i := 16) (N := some 34) (v := undef) (a' := ?_) #[true, true, true, true, true, true, true, true, true, true, true, true, true, true, true, true, true, false, false, false, false, false, false] rfl rfl (any_of HT_.out (by kernel_rfl)) (fun _ _ _ h => h) (Or.inr ⟨by rfl, rfl⟩) ?_ ?_
    rotate_left
    ·simp only [Act.put, qSa, qSb, qSc, i64_w, i32_w]
     rfl
    refine pure_ (i := 17) (N := some 35) (v := undef) (a' := ?_) #[true, true, true, true, true, true, true, true, true, true, true, true, true, true, true, true, true, true, false, false, false, false, false] rfl rfl (any_of HT_.out (by kernel_rfl)) (fun _ _ _ h => h) (Or.inr ⟨by rfl, rfl⟩) ?_ ?_
    rotate_left
    ·simp only [Act.put, qSa, qSb, qSc, i64_w, i32_w]
     rfl
    refine pure_ (i := 18) (N := some 36) (v := undef) (a' := ?_) #[true, true, true, true, true, true, true, true, true, true, true, true, true, true, true, true, true, true, true, false, false, false, false] rfl rfl (any_of HT_.out (by kernel_rfl)) (fun _ _ _ h => h) (Or.inr ⟨by rfl, rfl⟩) ?_ ?_
    rotate_left
    ·simp only [Act.put, qSa, qSb, qSc, i64_w, i32_w]
     rfl
    refine pure_ (i := 19) (N := some 37) (v := undef) (a' := ?_) #[true, true, true, true, true, true, true, true, true, true, true, true, true, true, true, true, true, true, true, true, false, false, false] rfl rfl (any_of HT_.out (by kernel_rfl)) (fun _ _ _ h => h) (Or.inr ⟨by rfl, rfl⟩) ?_ ?_
    rotate_left
    ·simp only [Act.put, qSa, qSb, qSc, i64_w, i32_w]
     rfl
    refine pure_ (i := 20) (N := some 38) (v := undef) (a' := ?_) #[true, true, true, true, true, true, true, true, true, true, true, true, true, true, true, true, true, true, true, true, true, false, false] rfl rfl (any_of HT_.out (by kernel_rfl)) (fun _ _ _ h => h) (Or.inr ⟨by rfl, rfl⟩) ?_ ?_
    rotate_left
    ·simp only [Act.put, qSa, qSb, qSc, i64_w, i32_w]
     rfl
    refine pure_ (i := 21) (N := some 39) (v := undef) (a' := ?_) #[true, true, true, true, true, true, true, true, true, true, true, true, true, true, true, true, true, true, true, true, true, true, false] rfl rfl (any_of HT_.out (by kernel_rfl)) (fun _ _ _ h => h) (Or.inr ⟨by rfl, rfl⟩) ?_ ?_
    rotate_left
    ·simp only [Act.put, qSa, qSb, qSc, i64_w, i32_w]
     rfl
    refine tP0 22 40 (bm 23 8388607) ?_
    refine done_ (done_of HT_.out (by kernel_rfl)) ?_
    try go_wp2
    go_meet
    case rel => exact ⟨_, (true), tS, H', ⟨by have := HK1.out; first | omega | exact Nat.le_refl _⟩, ⟨tG BK666.out⟩, ⟨tB⟩⟩
   subst c12
   rw [if_pos rfl] at H
   by_cases c13 : 0 < (l0.length : Int)
   rotate_left
   ·rw [if_neg c13] at H
    exact absurd H (by simp)
   rw [if_pos c13] at H
   have c13b0 := decide_eq_true c13
   have c13b1 : decide (0 < l0.length) = true := decide_eq_true (by omega)
   clear c13
   (first | rw [c13b0] | (simp only [i64_w, i32_w]; rw [c13b0]) | skip)
   by_cases c14 : ((rd_T63 l0 x13_1).f0) = ((rd_T63 l0 0).f0)
   rotate_left
   ·rw [if_neg c14] at H
    have c14b0 := beq_eq_false_iff_ne.mpr c14
    have c14b1 := bne_iff_ne.mpr c14
    replace H' := Aq.mk H
    clear H
    try go_wp2
    have n0_ : Aq (((w9.setCell ⟨gb666, 0, none⟩ (.int .i64 ((rd_T63 l0 x13_1).f0))).setCell ⟨gb666, 1, none⟩ (.slice A665_1 ((rd_T63 l0 x13_1).f1).length c665_1)).heap[gb666]? = some (.cells #[.int .i64 ((rd_T63 l0 x13_1).f0), .slice A665_1 ((rd_T63 l0 x13_1).f1).length c665_1] 63 (0, 0))) := ⟨by (with_reducible repeat (first | refine kQN ?_ _ | refine kQD ?_ | refine kQA ?_ _)); refine kQP (cs := #[.int .i64 ((rd_T63 l0 x13_1).f0), .slice none 0 0]) ?_ 1 _ rfl; (with_reducible repeat (first | refine kQN ?_ _ | refine kQD ?_ | refine kQA ?_ _)); refine kQP (cs := #[.int .i64 0, .slice none 0 0]) ?_ 0 _ rfl; (with_reducible repeat (first | refine kQN ?_ _ | refine kQD ?_ | refine kQA ?_ _)); exact BK666.out⟩
    have n1_ : Aq (Below w.heap.size w ((w9.setCell ⟨gb666, 0, none⟩ (.int .i64 ((rd_T63 l0 x13_1).f0))).setCell ⟨gb666, 1, none⟩ (.slice A665_1 ((rd_T63 l0 x13_1).f1).length c665_1))) := ⟨tB⟩
    (try clear BK666)
    (try clear HB)
    generalize ((w9.setCell ⟨gb666, 0, none⟩ (.int .i64 ((rd_T63 l0 x13_1).f0))).setCell ⟨gb666, 1, none⟩ (.slice A665_1 ((rd_T63 l0 x13_1).f1).length c665_1)) = w18 at n0_ n1_ ⊢
    have BK666 := n0_
    have HB := n1_
    clear n0_ n1_
    have n0_ := Aq.mk (kQD BK666.out)
    have n1_ := Aq.mk (bQ1 HB.out)
    clear BK666
    clear HB
    have BK666 := n0_
    have HB := n1_
    clear n0_ n1_
    have p668 : 0 ≤ (0 : Int) := (by omega)
    have q668 : 0 < (l0.length : Int) := of_decide_eq_true tA
    obtain ⟨ad668, A668_1, c668_1, e668, hx668_0, hx668_1, hl668_1, hi668_1⟩ := at_T63 HR0.out 0 p668 q668
    have hw668_1 := hx668_1
    (try rw [show ((0 : Int)).toNat = 0 from rfl] at hw668_1)
    (try rw [show 0 * 2 = 0 from rfl] at hw668_1)
    (try rw [Addr.add_zero'] at hw668_1)
    have hw668_0 := hx668_0
    (try rw [show ((0 : Int)).toNat = 0 from rfl] at hw668_0)
    (try rw [show 0 * 2 = 0 from rfl] at hw668_0)
    (try rw [Addr.add_zero'] at hw668_0)
    obtain rfl : ad665 = ad668 := (by injection e668)
    have qi668 : (0 < l0.length) = True := eq_true (by omega)
    (try rw [show ((0 : Int)).toNat = 0 from rfl] at hx668_0)
    (try rw [show 0 * 2 = 0 from rfl] at hx668_0)
    (try rw [Addr.add_zero'] at hx668_0)
    (try rw [show ((0 : Int)).toNat = 0 from rfl] at hx668_1)
    (try rw [show 0 * 2 = 0 from rfl] at hx668_1)
    (try rw [Addr.add_zero'] at hx668_1)
    replace hx668_0 := (HB.out.cell (World.block_lt_of_cell? w _ hx668_0)).trans hx668_0
    replace hx668_1 := (HB.out.cell (World.block_lt_of_cell? w _ hx668_1)).trans hx668_1
    have HR668_1 := Aq.mk hi668_1
    have HC668_1 := Aq.mk hl668_1
    clear hi668_1 hl668_1
    replace p668 := eq_true p668
    replace q668 := eq_true q668
    refine start_ (n := 23) (S := fun w' => w'.cell? ⟨gb666, 0, none⟩ = some (.int .i64 ((rd_T63 l0 x13_1).f0)) ∧ w'.cell? ⟨gb666, 1, none⟩ = some (.slice A665_1 ((rd_T63 l0 x13_1).f1).length c665_1) ∧ w'.cell? ad665 = some (.int .i64 ((rd_T63 l0 0).f0)) ∧ w'.cell? ⟨ad665.block, ad665.off + 1, none⟩ = some (.slice A668_1 ((rd_T63 l0 0).f1).length c668_1)) (ds := []) #[false, false, false, false, false, false, false, false, false, false, false, false, false, false, false, false, false, false, false, false, false, false, false] (by kernel_rfl) rfl rfl ⟨(kQC BK666.out 0).trans rfl, (kQC BK666.out 1).trans rfl, (tcw tB hw668_0), (tcw tB hw668_1)⟩ (fun hHeld => ?_); refine with_tabW impl_ValidSpaces.tab6 impl_ValidSpaces.bits6 (fun HT_ HW_ => ?_)
    generalize w18.drew = w19 at BK666 HB HR668_1 hx668_0 hx668_1 hHeld ⊢
    refine tT4 0 18 (bm 23 1) ?_
    refine one_ (i := 1) (N := some 19) (bm 23 3) rfl rfl (one_of HT_.out (by kernel_rfl)) (by decide) (fun K hK => ?_)
    refine goes_ Try.func59 (by kernel_rfl) rfl #[.agg #[.int .i64 ((rd_T63 l0 x13_1).f0), .slice A665_1 ((rd_T63 l0 x13_1).f1).length c665_1]] (by rfl) rfl rfl tL ?_
    with_reducible refine (impl_IsSpace.calls k1 ((rd_T63 l0 x13_1).f0) _ _ ((rd_T63 l0 x13_1).f1) true _ ?s1 ?s2 A11.out).mono ?_
    (case s1 => exact tC ((Kd.C_below HR665_1.out HB.out)))
    (case s2 => exact HC665_1.out)
    rintro e w20 ⟨rfl, hb⟩
    refine ⟨_, rfl, ?_⟩
    have n0_ := Aq.mk (tQ BK666.out hb)
    have n1_ := Aq.mk (bQT tB hb)
    clear BK666
    clear HB
    have BK666 := n0_
    have HB := n1_
    clear n0_ n1_
    (try clear hb)
    (try clear hb2)
    (try clear hk)
    (try clear hi)
    refine hK.out _ _ ⟨(kQC BK666.out 0).trans rfl, (kQC BK666.out 1).trans rfl, (tcw tB hw668_0), (tcw tB hw668_1)⟩ (fun hHeld => ?_)
    clear hK K
    refine tN 19 ?_
    refine tP0 2 20 (bm 23 7) ?_
    refine tP0 3 21 (bm 23 15) ?_
    refine tP0 4 22 (bm 23 31) ?_
    refine tP0 6 24 (bm 23 95) ?_
    refine tP0 7 25 (bm 23 223) ?_
    refine tP0 8 26 (bm 23 479) ?_
    refine tT4 5 23 (bm 23 511) ?_
    refine tT4 9 27 (bm 23 1023) ?_
    refine tP0 10 28 (bm 23 2047) ?_
    refine tP0 11 29 (bm 23 4095) ?_
    refine tP0 12 30 (bm 23 8191) ?_
    refine pure_ (i := 13) (N := some 31) (v := undef) (a' := ?_) #[true, true, true, true, true, true, true, true, true, true, true, true, true, true, false, false, false, false, false, false, false, false, false] rfl rfl (any_of HT_.out (by kernel_rfl)) (fun _ _ _ h => h) (Or.inr ⟨by rfl, rfl⟩) ?_ ?_
    rotate_left
    ·simp only [Act.put, qSa, qSb, qSc, i64_w, i32_w]
     rfl
    refine pure_ (i := 14) (N := some 32) (v := undef) (a' := ?_) #[true, true, true, true, true, true, true, true, true, true, true, true, true, true, true, false, false, false, false, false, false, false, false] rfl rfl (any_of HT_.out (by kernel_rfl)) (fun _ _ _ h => h) (Or.inr ⟨by rfl, rfl⟩) ?_ ?_
    rotate_left
    ·simp only [Act.put, qSa, qSb, qSc, i64_w, i32_w]
     rfl
    refine pure_ (i := 15) (N := some 33) (v := undef) (a' := ?_) #[true, true, true, true, true, true, true, true, true, true, true, true, true, true, true, true, false, false, false, false, false, false, false] rfl rfl (any_of HT_.out (by kernel_rfl)) (fun _ _ _ h => h) (Or.inr ⟨by rfl, rfl⟩) ?_ ?_
    rotate_left
    ·simp only [Act.put, qSa, qSb, qSc, i64_w, i32_w]
     rfl
    refine pure_ (i := 16) (N := some 34) (v := undef) (a' := ?_) #[true, true, true, true, true, true, true, true, true, true, true, true, true, true, true, true, true, false, false, false, false, false, false] rfl rfl (any_of HT_.out (by kernel_rfl)) (fun _ _ _ h => h) (Or.inr ⟨by rfl, rfl⟩) ?_ ?_
    rotate_left
    ·simp only [Act.put, qSa, qSb, qSc, i64_w, i32_w]
     rfl
    refine pure_ (i := 17) (N := some 35) (v := undef) (a' := ?_) #[true, true, true, true, true, true, true, true, true, true, true, true, true, true, true, true, true, true, false, false, false, false, false] rfl rfl (any_of HT_.out (by kernel_rfl)) (fun _ _ _ h => h) (Or.inr ⟨by rfl, rfl⟩) ?_ ?_
    rotate_left
    ·simp only [Act.put, qSa, qSb, qSc, i64_w, i32_w]
     rfl
    refine pure_ (i := 18) (N := some 36) (v := undef) (a' := ?_) #[true, true, true, true, true, true, true, true, true, true, true, true, true, true, true, true, true, true, true, false, false, false, false] rfl rfl (any_of HT_.out (by kernel_rfl)) (fun _ _ _ h => h) (Or.inr ⟨by rfl, rfl⟩) ?_ ?_
    rotate_left
    ·simp only [Act.put, qSa, qSb, qSc, i64_w, i32_w]
     rfl
    refine pure_ (i := 19) (N := some 37) (v := undef) (a' := ?_) #[true, true, true, true, true, true, true, true, true, true, true, true, true, true, true, true, true, true, true, true, false, false, false] rfl rfl (any_of HT_.out (by kernel_rfl)) (fun _ _ _ h => h) (Or.inr ⟨by rfl, rfl⟩) ?_ ?_
    rotate_left
    ·simp only [Act.put, qSa, qSb, qSc, i64_w, i32_w]
     rfl
    refine pure_ (i := 20) (N := some 38) (v := undef) (a' := ?_) #[true, true, true, true, true, true, true, true, true, true, true, true, true, true, true, true, true, true, true, true, true, false, false] rfl rfl (any_of HT_.out (by kernel_rfl)) (fun _ _ _ h => h) (Or.inr ⟨by rfl, rfl⟩) ?_ ?_
    rotate_left
    ·simp only [Act.put, qSa, qSb, qSc, i64_w, i32_w]
     rfl
    refine pure_ (i := 21) (N := some 39) (v := undef) (a' := ?_) #[true, true, true, true, true, true, true, true, true, true, true, true, true, true, true, true, true, true, true, true, true, true, false] rfl rfl (any_of HT_.out (by kernel_rfl)) (fun _ _ _ h => h) (Or.inr ⟨by rfl, rfl⟩) ?_ ?_
    rotate_left
    ·simp only [Act.put, qSa, qSb, qSc, i64_w, i32_w]
     rfl
    refine tP0 22 40 (bm 23 8388607) ?_
    refine done_ (done_of HT_.out (by kernel_rfl)) ?_
    try go_wp2
    go_meet
    case rel => exact ⟨_, (true), tS, H', ⟨by have := HK1.out; first | omega | exact Nat.le_refl _⟩, ⟨tG BK666.out⟩, ⟨tB⟩⟩
   rw [if_pos c14] at H
   have c14b0 := beq_iff_eq.mpr c14
   have c14b1 := bne_eq_false_iff_eq.mpr c14
   clear c14
   replace H' := Aq.mk H
   clear H
   try go_wp2
   have n0_ : Aq (((w9.setCell ⟨gb666, 0, none⟩ (.int .i64 ((rd_T63 l0 x13_1).f0))).setCell ⟨gb666, 1, none⟩ (.slice A665_1 ((rd_T63 l0 x13_1).f1).length c665_1)).heap[gb666]? = some (.cells #[.int .i64 ((rd_T63 l0 x13_1).f0), .slice A665_1 ((rd_T63 l0 x13_1).f1).length c665_1] 63 (0, 0))) := ⟨by (with_reducible repeat (first | refine kQN ?_ _ | refine kQD ?_ | refine kQA ?_ _)); refine kQP (cs := #[.int .i64 ((rd_T63 l0 x13_1).f0), .slice none 0 0]) ?_ 1 _ rfl; (with_reducible repeat (first | refine kQN ?_ _ | refine kQD ?_ | refine kQA ?_ _)); refine kQP (cs := #[.int .i64 0, .slice none 0 0]) ?_ 0 _ rfl; (with_reducible repeat (first | refine kQN ?_ _ | refine kQD ?_ | refine kQA ?_ _)); exact BK666.out⟩
   have n1_ : Aq (Below w.heap.size w ((w9.setCell ⟨gb666, 0, none⟩ (.int .i64 ((rd_T63 l0 x13_1).f0))).setCell ⟨gb666, 1, none⟩ (.slice A665_1 ((rd_T63 l0 x13_1).f1).length c665_1))) := ⟨tB⟩
   (try clear BK666)
   (try clear HB)
   generalize ((w9.setCell ⟨gb666, 0, none⟩ (.int .i64 ((rd_T63 l0 x13_1).f0))).setCell ⟨gb666, 1, none⟩ (.slice A665_1 ((rd_T63 l0 x13_1).f1).length c665_1)) = w15 at n0_ n1_ ⊢
   have BK666 := n0_
   have HB := n1_
   clear n0_ n1_
   have n0_ := Aq.mk (kQD BK666.out)
   have n1_ := Aq.mk (bQ1 HB.out)
   clear BK666
   clear HB
   have BK666 := n0_
   have HB := n1_
   clear n0_ n1_
   have p668 : 0 ≤ (0 : Int) := (by omega)
   have q668 : 0 < (l0.length : Int) := of_decide_eq_true tA
   obtain ⟨ad668, A668_1, c668_1, e668, hx668_0, hx668_1, hl668_1, hi668_1⟩ := at_T63 HR0.out 0 p668 q668
   have hw668_1 := hx668_1
   (try rw [show ((0 : Int)).toNat = 0 from rfl] at hw668_1)
   (try rw [show 0 * 2 = 0 from rfl] at hw668_1)
   (try rw [Addr.add_zero'] at hw668_1)
   have hw668_0 := hx668_0
   (try rw [show ((0 : Int)).toNat = 0 from rfl] at hw668_0)
   (try rw [show 0 * 2 = 0 from rfl] at hw668_0)
   (try rw [Addr.add_zero'] at hw668_0)
   obtain rfl : ad665 = ad668 := (by injection e668)
   have qi668 : (0 < l0.length) = True := eq_true (by omega)
   (try rw [show ((0 : Int)).toNat = 0 from rfl] at hx668_0)
   (try rw [show 0 * 2 = 0 from rfl] at hx668_0)
   (try rw [Addr.add_zero'] at hx668_0)
   (try rw [show ((0 : Int)).toNat = 0 from rfl] at hx668_1)
   (try rw [show 0 * 2 = 0 from rfl] at hx668_1)
   (try rw [Addr.add_zero'] at hx668_1)
   replace hx668_0 := (HB.out.cell (World.block_lt_of_cell? w _ hx668_0)).trans hx668_0
   replace hx668_1 := (HB.out.cell (World.block_lt_of_cell? w _ hx668_1)).trans hx668_1
   have HR668_1 := Aq.mk hi668_1
   have HC668_1 := Aq.mk hl668_1
   clear hi668_1 hl668_1
   replace p668 := eq_true p668
   replace q668 := eq_true q668
   have p669 : 0 ≤ (0 : Int) := (by omega)
   have q669 : 0 < (l0.length : Int) := of_decide_eq_true tA
   obtain ⟨ad669, A669_1, c669_1, e669, hx669_0, hx669_1, hl669_1, hi669_1⟩ := at_T63 HR0.out 0 p669 q669
   have hw669_1 := hx669_1
   (try rw [show ((0 : Int)).toNat = 0 from rfl] at hw669_1)
   (try rw [show 0 * 2 = 0 from rfl] at hw669_1)
   (try rw [Addr.add_zero'] at hw669_1)
   have hw669_0 := hx669_0
   (try rw [show ((0 : Int)).toNat = 0 from rfl] at hw669_0)
   (try rw [show 0 * 2 = 0 from rfl] at hw669_0)
   (try rw [Addr.add_zero'] at hw669_0)
   obtain rfl : ad665 = ad669 := (by injection e669)
   have qi669 : (0 < l0.length) = True := eq_true (by omega)
   (try rw [show ((0 : Int)).toNat = 0 from rfl] at hx669_0)
   (try rw [show 0 * 2 = 0 from rfl] at hx669_0)
   (try rw [Addr.add_zero'] at hx669_0)
   (try rw [show ((0 : Int)).toNat = 0 from rfl] at hx669_1)
   (try rw [show 0 * 2 = 0 from rfl] at hx669_1)
   (try rw [Addr.add_zero'] at hx669_1)
   replace hx669_0 := (HB.out.cell (World.block_lt_of_cell? w _ hx669_0)).trans hx669_0
   replace hx669_1 := (HB.out.cell (World.block_lt_of_cell? w _ hx669_1)).trans hx669_1
   have HR669_1 := Aq.mk hi669_1
   have HC669_1 := Aq.mk hl669_1
   clear hi669_1 hl669_1
   replace p669 := eq_true p669
   replace q669 := eq_true q669
   have ea_ := Option.some.inj (hx668_1.symm.trans hx669_1)
   injection ea_ with ea_ en_ ec_
   subst ea_
   subst ec_
   clear en_
   refine start_ (n := 23) (S := fun w' => w'.cell? ⟨gb666, 0, none⟩ = some (.int .i64 ((rd_T63 l0 x13_1).f0)) ∧ w'.cell? ⟨gb666, 1, none⟩ = some (.slice A665_1 ((rd_T63 l0 x13_1).f1).length c665_1) ∧ w'.cell? ad665 = some (.int .i64 ((rd_T63 l0 0).f0)) ∧ w'.cell? ⟨ad665.block, ad665.off + 1, none⟩ = some (.slice A668_1 ((rd_T63 l0 0).f1).length c668_1) ∧ w'.cell? ad665 = some (.int .i64 ((rd_T63 l0 0).f0)) ∧ w'.cell? ⟨ad665.block, ad665.off + 1, none⟩ = some (.slice A668_1 ((rd_T63 l0 0).f1).length c668_1)) (ds := []) #[false, false, false, false, false, false, false, false, false, false, false, false, false, false, false, false, false, false, false, false, false, false, false] (by kernel_rfl) rfl rfl ⟨(kQC BK666.out 0).trans rfl, (kQC BK666.out 1).trans rfl, (tcw tB hw668_0), (tcw tB hw668_1), (tcw tB hw669_0), (tcw tB hw669_1)⟩ (fun hHeld => ?_); refine with_tabW impl_ValidSpaces.tab6 impl_ValidSpaces.bits6 (fun HT_ HW_ => ?_)
   generalize w15.drew = w16 at BK666 HB HR668_1 HR669_1 hx668_0 hx668_1 hx669_0 hx669_1 hHeld ⊢
   refine tT6 0 18 (bm 23 1) ?_
   refine one_ (i := 1) (N := some 19) (bm 23 3) rfl rfl (one_of HT_.out (by kernel_rfl)) (by decide) (fun K hK => ?_)
   refine goes_ Try.func59 (by kernel_rfl) rfl #[.agg #[.int .i64 ((rd_T63 l0 x13_1).f0), .slice A665_1 ((rd_T63 l0 x13_1).f1).length c665_1]] (by rfl) rfl rfl tL ?_
   with_reducible refine (impl_IsSpace.calls k1 ((rd_T63 l0 x13_1).f0) _ _ ((rd_T63 l0 x13_1).f1) true _ ?s1 ?s2 A11.out).mono ?_
   (case s1 => exact tC ((Kd.C_below HR665_1.out HB.out)))
   (case s2 => exact HC665_1.out)
   rintro e w17 ⟨rfl, hb⟩
   refine ⟨_, rfl, ?_⟩
   have n0_ := Aq.mk (tQ BK666.out hb)
   have n1_ := Aq.mk (bQT tB hb)
   clear BK666
   clear HB
   have BK666 := n0_
   have HB := n1_
   clear n0_ n1_
   (try clear hb)
   (try clear hb2)
   (try clear hk)
   (try clear hi)
   refine hK.out _ _ ⟨(kQC BK666.out 0).trans rfl, (kQC BK666.out 1).trans rfl, (tcw tB hw668_0), (tcw tB hw668_1), (tcw tB hw669_0), (tcw tB hw669_1)⟩ (fun hHeld => ?_)
   clear hK K
   refine tN 19 ?_
   refine tP0 2 20 (bm 23 7) ?_
   refine tP0 3 21 (bm 23 15) ?_
   refine tP0 4 22 (bm 23 31) ?_
   refine tP0 6 24 (bm 23 95) ?_
   refine tP0 7 25 (bm 23 223) ?_
   refine tP0 8 26 (bm 23 479) ?_
   refine tT6 5 23 (bm 23 511) ?_
   refine tT6 9 27 (bm 23 1023) ?_
   refine tP0 10 28 (bm 23 2047) ?_
   refine tP0 11 29 (bm 23 4095) ?_
   refine tP0 12 30 (bm 23 8191) ?_
   refine tP0 13 31 (bm 23 16383) ?_
   refine tP0 16 34 (bm 23 81919) ?_
   refine tP0 17 35 (bm 23 212991) ?_
   refine tP0 18 36 (bm 23 475135) ?_
   refine tT6 14 32 (bm 23 491519) ?_
   refine tP0 15 33 (bm 23 524287) ?_
   refine tT6 19 37 (bm 23 1048575) ?_
   refine tP0 20 38 (bm 23 2097151) ?_
   refine tP0 21 39 (bm 23 4194303) ?_
   refine tP0 22 40 (bm 23 8388607) ?_
   refine done_ (done_of HT_.out (by kernel_rfl)) ?_
   try go_wp2
   go_meet
   case rel => exact ⟨_, (((((rd_T63 l0 x13_1).f1).length : Int) != (((rd_T63 l0 0).f1).length : Int))), tS, H', ⟨by have := HK1.out; first | omega | exact Nat.le_refl _⟩, ⟨tG BK666.out⟩, ⟨tB⟩⟩
  clear HC8
  try clear c5
  try clear c6
  try clear c12
  try clear c13
  try clear c14
  try clear c14b0
  try clear c14b1
  try clear hx668_0
  try clear hx668_1
  try clear hx669_0
  try clear hx669_1
  try clear p668
  try clear q668
  obtain ⟨kq, x40_7, rfl, HA, HJ7, BK666, HB⟩ := hcut
  cases kq with
  | zero => exact absurd HA.out (by simp [impl_ValidSpaces.j1])
  | succ kj7 =>
   have H := HA.out
   clear HA
   simp only [impl_ValidSpaces.j1] at H
   by_cases c24 : x40_7 = true
   ·subst c24
    rw [if_pos rfl] at H
    obtain rfl := Option.some.inj H
    go_wp2
    go_ret
    exact ⟨tE, tB⟩
   replace c24 := Bool.eq_false_iff.mpr c24
   subst c24
   rw [if_neg (show ¬ (false = true) by decide)] at H
   by_cases c25 : 0 ≤ x13_1
   rotate_left
   ·rw [if_neg c25] at H
    exact absurd H (by simp)
   rw [if_pos c25] at H
   have c25b0 := eq_true c25
   have c25b1 := decide_eq_true c25
   clear c25
   by_cases c26 : x13_1 ≤ (l0.length : Int)
   rotate_left
   ·rw [if_neg c26] at H
    exact absurd H (by simp)
   rw [if_pos c26] at H
   have c26b0 := eq_true c26
   have c26b1 := decide_eq_true c26
   clear c26
   obtain ⟨y670, hy670⟩ : ∃ y_ : List (S63), y_ = (l0.take (x13_1 : Int).toNat) := ⟨_, rfl⟩
   replace H : (impl_ValidSpaces.l1 kj7 l0 l0 (l0.length : Int) x13_1 y670 (y670.length : Int) 0 ((rd_T63 l0 x13_1).f0) ((rd_T63 l0 x13_1).f1)) = some r := by first | (rw [hy670]; with_reducible exact H) | (have H2_ := (Option.bind_some _ _).symm.trans H; rw [hy670]; with_reducible exact H2_) | (have H2_ := (Option.bind_some _ _).symm.trans H; with_reducible exact H2_) | with_reducible exact H | (rw [hy670]; exact H) | exact H
   have Ny670 := Aq.mk hy670
   clear hy670
   replace H' := Aq.mk H
   clear H
   have q27 : (x13_1 : Int) ≤ ((l0.length : Int) : Int) := of_decide_eq_true tA
   obtain ⟨i027, hi027, _, hsz27, _⟩ := info_parts info63
   have hroom27 : l0.length ≤ c0 := HC0.out
   have hC27 : Kd.C k63 _ (some ad665) l0.length l0 := HR0.out
   have hcut27 := cut_to (P := Try.prog) 51 63 .i64 Try.underlying51 hi027 (some ad665) l0.length c0 x13_1 (of_decide_eq_true tA) q27 hroom27
   have hr27 := Kd.C_take (m := (x13_1 : Int).toNat) hC27 (by omega)
   have hy27 : y670.length = (x13_1 : Int).toNat := (by rw [Ny670.out, List.length_take]; omega)
   rw [← Ny670.out] at hr27
   rw [← hy27] at hcut27
   have HR673 := Aq.mk hr27
   have HC673 := Aq.mk (show y670.length ≤ c0 from by omega)
   clear hr27 hC27 hroom27 hi027 hsz27
   have KY27 := Aq.mk hy27
   clear hy27
   replace q27 := eq_true q27
   go_wp2
   go_loopg [45] kj7 (fun kq v45 w' => ∃ (x45_3 : Int), v45 = .int .i64 x45_3 ∧ Aq (impl_ValidSpaces.l1 kq l0 l0 (l0.length : Int) x13_1 y670 (y670.length : Int) x45_3 ((rd_T63 l0 x13_1).f0) ((rd_T63 l0 x13_1).f1) = some r) ∧ Aq (kq ≤ kj7) ∧ Aq (w'.heap[gb666]? = some (.cells #[.int .i64 ((rd_T63 l0 x13_1).f0), (.slice A665_1 ((rd_T63 l0 x13_1).f1).length c665_1)] 63 (0, 0))) ∧ Aq (Below w.heap.size w w'))
   case atStart => exact ⟨(0), tS, H', ⟨Nat.le_refl _⟩, ⟨tG BK666.out⟩, ⟨tB⟩⟩
   clear H'
   try clear c5
   try clear c6
   try clear c12
   try clear c13
   try clear c14
   try clear c14b0
   try clear c14b1
   try clear c24
   try clear c25
   try clear c25b0
   try clear c25b1
   try clear c26
   try clear c26b0
   try clear c26b1
   try clear q27
   try clear hx668_0
   try clear hx668_1
   try clear hx669_0
   try clear hx669_1
   try clear p668
   try clear q27
   try clear q668
   obtain ⟨x45_3, rfl, HA, HK3, BK666, HB⟩ := hrel
   cases gk with
   | zero => exact absurd HA.out (by simp [impl_ValidSpaces.l1])
   | succ k3 =>
    have H := HA.out
    clear HA
    simp only [impl_ValidSpaces.l1] at H
    by_cases c28 : x45_3 < (y670.length : Int)
    rotate_left
    ·rw [if_neg c28] at H
     have c28b0 := decide_eq_false c28
     clear c28
     replace H' := Aq.mk H
     clear H
     go_wp2
     go_roundg k3
     case measure => have := HK1.out; have := HJ7.out; have := HK3.out; omega
     case rel => exact ⟨(wrap64 (x13_1 + 1)), tS, H', ⟨by have := HK1.out; have := HJ7.out; have := HK3.out; omega⟩, ⟨tB⟩⟩
    rw [if_pos c28] at H
    have c28b0 := decide_eq_true c28
    clear c28
    by_cases c29 : 0 ≤ x45_3
    rotate_left
    ·rw [if_neg c29] at H
     exact absurd H (by simp)
    rw [if_pos c29] at H
    have c29b0 := decide_eq_true c29
    clear c29
    by_cases c30 : x45_3 < (y670.length : Int)
    rotate_left
    ·rw [if_neg c30] at H
     exact absurd H (by simp)
    rw [if_pos c30] at H
    have c30b0 := decide_eq_true c30
    clear c30
    obtain ⟨t676, A31, H⟩ := qBd H
    by_cases c32 : t676 = true
    ·subst c32
     rw [if_pos rfl] at H
     obtain rfl := Option.some.inj H
     have p674 : 0 ≤ (x45_3 : Int) := of_decide_eq_true tA
     have q674 : x45_3 < (y670.length : Int) := of_decide_eq_true tA
     obtain ⟨ad674, A674_1, c674_1, e674, hx674_0, hx674_1, hl674_1, hi674_1⟩ := at_T63 HR673.out x45_3 p674 q674
     obtain rfl : ad665 = ad674 := (by injection e674)
     replace hx674_0 := (HB.out.cell (World.block_lt_of_cell? w _ hx674_0)).trans hx674_0
     replace hx674_1 := (HB.out.cell (World.block_lt_of_cell? w _ hx674_1)).trans hx674_1
     have HR674_1 := Aq.mk hi674_1
     have HC674_1 := Aq.mk hl674_1
     clear hi674_1 hl674_1
     replace p674 := eq_true p674
     replace q674 := eq_true q674
     go_wp2_with (first | ((with_reducible refine gQd (N := 6) rfl ?_); (try (refine gate_guard (by rfl) ?_; dsimp only)); refine xQe ?hg (N := 6) ?hd (cs := #[.int .i64 0, .slice none 0 0]) (t := 63) ?hr ?_; (case hd => rfl); (case hg => rfl); (case hr => exact tH); intro gb675 hg w33 hbox hb; refine qM7 (tQ BK666.out hb) (bQT tB hb) hbox (tZ w hg) (tZ w hg) ((by rw [hg]; exact Nat.ne_of_lt (blk_lt (g := gb666) (o := .cells #[.int .i64 ((rd_T63 l0 x13_1).f0), .slice A665_1 ((rd_T63 l0 x13_1).f1).length c665_1] 63 (0, 0)) (tG BK666.out)) : gb666 ≠ gb675)) ((by rw [hg]; exact Nat.ne_of_gt (blk_lt (g := gb666) (o := .cells #[.int .i64 ((rd_T63 l0 x13_1).f0), .slice A665_1 ((rd_T63 l0 x13_1).f1).length c665_1] 63 (0, 0)) (tG BK666.out)) : gb675 ≠ gb666)) ?_; clear BK666 HB; intro BK666 HB BK675 GW675 GE675 NB666_675 NB675_666; clear hb hbox hg; have hnb34 := NB675_666.out; have hnc34 := NB666_675.out; have hcz35_0 : w33.cell? ⟨gb675, 0, none⟩ = some (.int .i64 0) := (kQC BK675.out 0).trans rfl; have hcz35_1 : w33.cell? ⟨gb675, 1, none⟩ = some (.slice none 0 0) := (kQC BK675.out 1).trans rfl; have hfz35_0 := kQF BK675.out 0; have hfz35_1 := kQF BK675.out 1; have hcz36_0 : w33.cell? ⟨gb666, 0, none⟩ = some (.int .i64 ((rd_T63 l0 x13_1).f0)) := (kQC BK666.out 0).trans rfl; have hcz36_1 : w33.cell? ⟨gb666, 1, none⟩ = some (.slice A665_1 ((rd_T63 l0 x13_1).f1).length c665_1) := (kQC BK666.out 1).trans rfl; have hfz36_0 := kQF BK666.out 0; have hfz36_1 := kQF BK666.out 1) | ((with_reducible refine gQc (f := 85) rfl ?_); refine goesL_ (some 51) rfl rfl Try.func85 (by kernel_rfl) rfl #[.agg #[.int .i64 ((rd_T63 l0 x13_1).f0), .slice A665_1 ((rd_T63 l0 x13_1).f1).length c665_1], .agg #[.int .i64 ((rd_T63 y670 x45_3).f0), .slice A674_1 ((rd_T63 y670 x45_3).f1).length c674_1]] rfl tL ?_; (with_reducible refine (impl_SameMatrix.calls k3 ((rd_T63 l0 x13_1).f0) _ _ ((rd_T63 l0 x13_1).f1) ((rd_T63 y670 x45_3).f0) _ _ ((rd_T63 y670 x45_3).f1) true _ ?s1 ?s2 ?s3 ?s4 A31.out).mono ?_); (case s1 => exact Kd.C_below HR665_1.out tB); (case s2 => exact HC665_1.out); (case s3 => exact Kd.C_below HR674_1.out tB); (case s4 => exact HC674_1.out); rintro e w37 ⟨rfl, hb⟩; refine ⟨_, rfl, ?_⟩; refine qM3 (kQB (g := gb666) (o := .cells #[.int .i64 ((rd_T63 l0 x13_1).f0), .slice A665_1 ((rd_T63 l0 x13_1).f1).length c665_1] 63 (0, 0)) (by (with_reducible repeat (first | refine kQN ?_ _ | refine kQD ?_ | refine kQA ?_ _)); refine kQR ?_ NB666_675.out _; (with_reducible repeat (first | refine kQN ?_ _ | refine kQD ?_ | refine kQA ?_ _)); refine kQR ?_ NB666_675.out _; (with_reducible repeat (first | refine kQN ?_ _ | refine kQD ?_ | refine kQA ?_ _)); exact BK666.out) hb) (kQB (g := gb675) (o := .cells #[.int .i64 ((rd_T63 y670 x45_3).f0), .slice A674_1 ((rd_T63 y670 x45_3).f1).length c674_1] 63 (0, 0)) (by (with_reducible repeat (first | refine kQN ?_ _ | refine kQD ?_ | refine kQA ?_ _)); refine kQP (cs := #[.int .i64 ((rd_T63 y670 x45_3).f0), .slice none 0 0]) ?_ 1 _ rfl; (with_reducible repeat (first | refine kQN ?_ _ | refine kQD ?_ | refine kQA ?_ _)); refine kQP (cs := #[.int .i64 0, .slice none 0 0]) ?_ 0 _ rfl; (with_reducible repeat (first | refine kQN ?_ _ | refine kQD ?_ | refine kQA ?_ _)); exact BK675.out) hb) (bQT tB hb) ?_; clear BK666 BK675 HB; intro BK666 BK675 HB; (try clear hb); (try clear hb2); (try clear hk); (try clear hi)))
     go_ret
     exact ⟨tE, tB⟩
    replace c32 := Bool.eq_false_iff.mpr c32
    subst c32
    rw [if_neg (show ¬ (false = true) by decide)] at H
    replace H' := Aq.mk H
    clear H
    have p674 : 0 ≤ (x45_3 : Int) := of_decide_eq_true tA
    have q674 : x45_3 < (y670.length : Int) := of_decide_eq_true tA
    obtain ⟨ad674, A674_1, c674_1, e674, hx674_0, hx674_1, hl674_1, hi674_1⟩ := at_T63 HR673.out x45_3 p674 q674
    obtain rfl : ad665 = ad674 := (by injection e674)
    replace hx674_0 := (HB.out.cell (World.block_lt_of_cell? w _ hx674_0)).trans hx674_0
    replace hx674_1 := (HB.out.cell (World.block_lt_of_cell? w _ hx674_1)).trans hx674_1
    have HR674_1 := Aq.mk hi674_1
    have HC674_1 := Aq.mk hl674_1
    clear hi674_1 hl674_1
    replace p674 := eq_true p674
    replace q674 := eq_true q674
    go_wp2_with (first | ((with_reducible refine gQd (N := 6) rfl ?_); (try (refine gate_guard (by rfl) ?_; dsimp only)); refine xQe ?hg (N := 6) ?hd (cs := #[.int .i64 0, .slice none 0 0]) (t := 63) ?hr ?_; (case hd => rfl); (case hg => rfl); (case hr => exact tH); intro gb675 hg w38 hbox hb; refine qM7 (tQ BK666.out hb) (bQT tB hb) hbox (tZ w hg) (tZ w hg) ((by rw [hg]; exact Nat.ne_of_lt (blk_lt (g := gb666) (o := .cells #[.int .i64 ((rd_T63 l0 x13_1).f0), .slice A665_1 ((rd_T63 l0 x13_1).f1).length c665_1] 63 (0, 0)) (tG BK666.out)) : gb666 ≠ gb675)) ((by rw [hg]; exact Nat.ne_of_gt (blk_lt (g := gb666) (o := .cells #[.int .i64 ((rd_T63 l0 x13_1).f0), .slice A665_1 ((rd_T63 l0 x13_1).f1).length c665_1] 63 (0, 0)) (tG BK666.out)) : gb675 ≠ gb666)) ?_; clear BK666 HB; intro BK666 HB BK675 GW675 GE675 NB666_675 NB675_666; clear hb hbox hg; have hnb39 := NB675_666.out; have hnc39 := NB666_675.out; have hcz40_0 : w38.cell? ⟨gb675, 0, none⟩ = some (.int .i64 0) := (kQC BK675.out 0).trans rfl; have hcz40_1 : w38.cell? ⟨gb675, 1, none⟩ = some (.slice none 0 0) := (kQC BK675.out 1).trans rfl; have hfz40_0 := kQF BK675.out 0; have hfz40_1 := kQF BK675.out 1; have hcz41_0 : w38.cell? ⟨gb666, 0, none⟩ = some (.int .i64 ((rd_T63 l0 x13_1).f0)) := (kQC BK666.out 0).trans rfl; have hcz41_1 : w38.cell? ⟨gb666, 1, none⟩ = some (.slice A665_1 ((rd_T63 l0 x13_1).f1).length c665_1) := (kQC BK666.out 1).trans rfl; have hfz41_0 := kQF BK666.out 0; have hfz41_1 := kQF BK666.out 1) | ((with_reducible refine gQc (f := 85) rfl ?_); refine goesL_ (some 51) rfl rfl Try.func85 (by kernel_rfl) rfl #[.agg #[.int .i64 ((rd_T63 l0 x13_1).f0), .slice A665_1 ((rd_T63 l0 x13_1).f1).length c665_1], .agg #[.int .i64 ((rd_T63 y670 x45_3).f0), .slice A674_1 ((rd_T63 y670 x45_3).f1).length c674_1]] rfl tL ?_; (with_reducible refine (impl_SameMatrix.calls k3 ((rd_T63 l0 x13_1).f0) _ _ ((rd_T63 l0 x13_1).f1) ((rd_T63 y670 x45_3).f0) _ _ ((rd_T63 y670 x45_3).f1) false _ ?s1 ?s2 ?s3 ?s4 A31.out).mono ?_); (case s1 => exact Kd.C_below HR665_1.out tB); (case s2 => exact HC665_1.out); (case s3 => exact Kd.C_below HR674_1.out tB); (case s4 => exact HC674_1.out); rintro e w42 ⟨rfl, hb⟩; refine ⟨_, rfl, ?_⟩; refine qM3 (kQB (g := gb666) (o := .cells #[.int .i64 ((rd_T63 l0 x13_1).f0), .slice A665_1 ((rd_T63 l0 x13_1).f1).length c665_1] 63 (0, 0)) (by (with_reducible repeat (first | refine kQN ?_ _ | refine kQD ?_ | refine kQA ?_ _)); refine kQR ?_ NB666_675.out _; (with_reducible repeat (first | refine kQN ?_ _ | refine kQD ?_ | refine kQA ?_ _)); refine kQR ?_ NB666_675.out _; (with_reducible repeat (first | refine kQN ?_ _ | refine kQD ?_ | refine kQA ?_ _)); exact BK666.out) hb) (kQB (g := gb675) (o := .cells #[.int .i64 ((rd_T63 y670 x45_3).f0), .slice A674_1 ((rd_T63 y670 x45_3).f1).length c674_1] 63 (0, 0)) (by (with_reducible repeat (first | refine kQN ?_ _ | refine kQD ?_ | refine kQA ?_ _)); refine kQP (cs := #[.int .i64 ((rd_T63 y670 x45_3).f0), .slice none 0 0]) ?_ 1 _ rfl; (with_reducible repeat (first | refine kQN ?_ _ | refine kQD ?_ | refine kQA ?_ _)); refine kQP (cs := #[.int .i64 0, .slice none 0 0]) ?_ 0 _ rfl; (with_reducible repeat (first | refine kQN ?_ _ | refine kQD ?_ | refine kQA ?_ _)); exact BK675.out) hb) (bQT tB hb) ?_; clear BK666 BK675 HB; intro BK666 BK675 HB; (try clear hb); (try clear hb2); (try clear hk); (try clear hi)))
    go_roundg k3
    case measure => have := HK1.out; have := HJ7.out; have := HK3.out; omega
    case rel => exact ⟨(wrap64 (x45_3 + 1)), tS, H', ⟨by have := HK1.out; have := HJ7.out; have := HK3.out; omega⟩, ⟨tG BK666.out⟩, ⟨tB⟩⟩
end Go.Proofs.Ytbalkaphibnpcaa.P
