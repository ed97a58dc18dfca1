/- Functions of the program and what they tell, as the printing program wrote it. -/
import Derived.Test.YtbaicdgkpnbipaaPx0
import Derived.Test.YtbaicdgkpnbipaaPx5
namespace Go.Proofs.Ytbaicdgkpnbipaa.P
open Go.Shelf Go.RowKit Go.Proofs.YtbaicdgkpnbipaaW.PrintWords Go.Proofs.YtbaicdgkpnbipaaW.PrintLast Go.Proofs.YtbaicdgkpnbipaaW.PrintMore
attribute [local go_sem] max2_int min2_int max_two min_two max_three min_three max_four min_four
set_option linter.unusedVariables false
set_option linter.unusedSimpArgs false
def laws_szMatrixS.l0 : Nat → List (S24) → Int → Int → Option (Int)
  | 0, _, _, _ => none
  | k + 1, x0, x1, x5 => if x5 < (x0.length : Int) then (if 0 ≤ x5 then ((laws_szMatrix.f ((rd_T24 x0 x5).f0) ((rd_T24 x0 x5).f1) x1).bind fun t671 => (if t671 < 0 then (some (-1)) else (laws_szMatrixS.l0 k x0 t671 (wrap64 (x5 + 1))))) else (none)) else (some x1)
def laws_szMatrixS.f (k : Nat) (l0 : List (S24)) (a1 : Int) : Option (Int) := if (wrap64 (a1 - (l0.length : Int))) < 0 then (some (-1)) else (laws_szMatrixS.l0 k l0 (wrap64 (a1 - (l0.length : Int))) 0)
theorem laws_szMatrixS.mono_l : ∀ k, (∀ y0 y1 y2, LeO (laws_szMatrixS.l0 k y0 y1 y2) (laws_szMatrixS.l0 (k + 1) y0 y1 y2))
 | 0 => fun _ _ _ r h => by simp [laws_szMatrixS.l0] at h
 | k + 1 => by
  have ih0 := laws_szMatrixS.mono_l k
  ·intro y0 y1 y2
   unfold laws_szMatrixS.l0
   repeat' first
   | (with_reducible first | exact ih0 _ _ _ | exact LeO.refl _ | exact LeO.none _ | refine LeO.ite ?_ ?_ | refine LeO.bind ?_ (fun _ => ?_))
   | exact LeO.none _
   | refine LeO.ite ?_ ?_
   | refine LeO.bind ?_ (fun _ => ?_)
theorem laws_szMatrixS.mono : ∀ a0 a1 k, LeO (laws_szMatrixS.f k a0 a1) (laws_szMatrixS.f (k + 1) a0 a1) := by
 intro a0 a1 k
 have ih0 := laws_szMatrixS.mono_l k
 unfold laws_szMatrixS.f
 repeat' first
  | (with_reducible first | exact ih0 _ _ _ | exact LeO.refl _ | exact LeO.none _ | refine LeO.ite ?_ ?_ | refine LeO.bind ?_ (fun _ => ?_))
  | exact LeO.none _
  | refine LeO.ite ?_ ?_
  | refine LeO.bind ?_ (fun _ => ?_)
set_option maxHeartbeats 8000000 in
set_option maxRecDepth 100000 in
theorem laws_szMatrixS.calls (k : Nat) (A0 : Option Addr) (c0 : Nat) (l0 : List (S24)) (a1 : Int) (r : Int) (w : World) (hr0 : Kd.C k24 w A0 l0.length l0) (hc0 : l0.length ≤ c0) (h : laws_szMatrixS.f k l0 a1 = some r) :
 Calls Try.prog 35 #[.slice A0 l0.length c0, .int .i64 a1] w fun e w' => e = .returned (.int .i64 r) ∧ Below w.heap.size w w' := by
 have hu24 := Try.underlying24
 have HR0 := Aq.mk hr0
 have HC0 := Aq.mk hc0
 clear hr0 hc0
 have HB := Aq.mk (Below.refl w.heap.size w)
 have H : (if (wrap64 (a1 - (l0.length : Int))) < 0 then (some (-1)) else (laws_szMatrixS.l0 k l0 (wrap64 (a1 - (l0.length : Int))) 0)) = some r := h
 clear h
 by_cases c3 : (wrap64 (a1 - (l0.length : Int))) < 0
 ·rw [if_pos c3] at H
  have c3b0 : decide ((wrap64 (a1 - (l0.length : Int))) < 0) = true := decide_eq_true c3
  clear c3
  obtain rfl := Option.some.inj H
  go_enter Try.func35, Try.ntmps35
  go_wp2
  go_ret
  exact ⟨by first | rfl | (simp [errW_none, errW_some] <;> rfl) | (simp [*, errW_none, errW_some] <;> rfl), by repeat (first | (with_reducible first | exact HB.out | apply bQA | apply bQN | apply bQ1) | exact HB.out)⟩
 ·rw [if_neg c3] at H
  have c3b0 : decide ((wrap64 (a1 - (l0.length : Int))) < 0) = false := decide_eq_false c3
  clear c3
  have H' := Aq.mk H
  clear H
  go_enter Try.func35, Try.ntmps35
  go_wp2
  go_loopg [1, 5] k (fun kq v1 v5 w' => ∃ (x1_1 : Int) (x5_1 : Int), v1 = .int .i64 x1_1 ∧ v5 = .int .i64 x5_1 ∧ Aq (laws_szMatrixS.l0 kq l0 x1_1 x5_1 = some r) ∧ Aq (kq ≤ k) ∧ Aq (Below w.heap.size w w'))
  case atStart => exact ⟨(wrap64 (a1 - (l0.length : Int))), (0), (by first | rfl | (simp; done) | (simp [*]; done)), (by first | rfl | (simp; done) | (simp [*]; done)), H', ⟨Nat.le_refl _⟩, ⟨by repeat (first | (with_reducible first | exact HB.out | apply bQA | apply bQN | apply bQ1) | exact HB.out)⟩⟩
  case round =>
   clear H'
   try clear p2
   try clear c3
   try clear c3b0
   obtain ⟨x1_1, x5_1, rfl, rfl, HA, HK1, HB⟩ := hrel
   cases gk with
   | zero => exact absurd HA.out (by simp [laws_szMatrixS.l0])
   | succ k1 =>
    have H := HA.out
    clear HA
    simp only [laws_szMatrixS.l0] at H
    by_cases c4 : x5_1 < (l0.length : Int)
    ·rw [if_pos c4] at H
     have c4b0 : decide (x5_1 < (l0.length : Int)) = true := decide_eq_true c4
     clear c4
     by_cases c5 : 0 ≤ x5_1
     ·rw [if_pos c5] at H
      have c5b0 : decide (0 ≤ x5_1) = true := decide_eq_true c5
      clear c5
      replace H := Option.bind_eq_some_iff.mp H
      obtain ⟨t671, A60, H⟩ := H
      replace H : (if t671 < 0 then (some (-1)) else (laws_szMatrixS.l0 k1 l0 t671 (wrap64 (x5_1 + 1)))) = some r := H
      have A6 := Aq.mk A60
      clear A60
      by_cases c7 : t671 < 0
      ·rw [if_pos c7] at H
       have c7b0 : decide (t671 < 0) = true := decide_eq_true c7
       clear c7
       obtain rfl := Option.some.inj H
       have p670 : 0 ≤ (x5_1 : Int) := of_decide_eq_true (by first | (with_reducible assumption) | assumption)
       have q670 : x5_1 < (l0.length : Int) := of_decide_eq_true (by first | (with_reducible assumption) | assumption)
       obtain ⟨ad670, A670_1, c670_1, e670, hx670_0, hx670_1, hl670_1, hi670_1⟩ := at_T24 HR0.out x5_1 p670 q670
       cases e670
       replace hx670_0 := (HB.out.cell (World.block_lt_of_cell? w _ hx670_0)).trans hx670_0
       replace hx670_1 := (HB.out.cell (World.block_lt_of_cell? w _ hx670_1)).trans hx670_1
       have HR670_1 := Aq.mk hi670_1
       have HC670_1 := Aq.mk hl670_1
       clear hi670_1 hl670_1
       replace p670 := eq_true p670
       replace q670 := eq_true q670
       go_wp2_with (first | ((with_reducible refine gQc (f := 15) rfl ?_); refine goesL_ (some 23) rfl rfl Try.func15 (by kernel_rfl) rfl #[.agg #[.int .i64 ((rd_T24 l0 x5_1).f0), .slice A670_1 ((rd_T24 l0 x5_1).f1).length c670_1], .int .i64 x1_1] rfl (by (try simp only [List.map_toArray, List.map_cons, List.map_nil]); first | done | rfl | (simp only [List.length_drop, List.length_take]; rfl)) ?_; (with_reducible refine (laws_szMatrix.calls ((rd_T24 l0 x5_1).f0) _ _ ((rd_T24 l0 x5_1).f1) x1_1 t671 _ ?side1 ?side2 A6.out).mono ?_); (case side1 => repeat (first | exact (Kd.C_below HR670_1.out HB.out) | (with_reducible refine Kd.CqA ?_ _) | (with_reducible refine Kd.CqN ?_ _) | (with_reducible refine Kd.CqD ?_))); (case side2 => exact HC670_1.out); rintro e w8 ⟨rfl, hb⟩; refine ⟨_, rfl, ?_⟩; have n0_ := Aq.mk (bQT (by repeat (first | (with_reducible first | exact HB.out | apply bQA | apply bQN | apply bQ1) | exact HB.out)) hb); clear HB; have HB := n0_; clear n0_; (try clear hb); (try clear hb2); (try clear hk); (try clear hi)))
       go_ret
       exact ⟨by first | rfl | (simp [errW_none, errW_some] <;> rfl) | (simp [*, errW_none, errW_some] <;> rfl), by repeat (first | (with_reducible first | exact HB.out | apply bQA | apply bQN | apply bQ1) | exact HB.out)⟩
      ·rw [if_neg c7] at H
       have c7b0 : decide (t671 < 0) = false := decide_eq_false c7
       clear c7
       have H' := Aq.mk H
       clear H
       have p670 : 0 ≤ (x5_1 : Int) := of_decide_eq_true (by first | (with_reducible assumption) | assumption)
       have q670 : x5_1 < (l0.length : Int) := of_decide_eq_true (by first | (with_reducible assumption) | assumption)
       obtain ⟨ad670, A670_1, c670_1, e670, hx670_0, hx670_1, hl670_1, hi670_1⟩ := at_T24 HR0.out x5_1 p670 q670
       cases e670
       replace hx670_0 := (HB.out.cell (World.block_lt_of_cell? w _ hx670_0)).trans hx670_0
       replace hx670_1 := (HB.out.cell (World.block_lt_of_cell? w _ hx670_1)).trans hx670_1
       have HR670_1 := Aq.mk hi670_1
       have HC670_1 := Aq.mk hl670_1
       clear hi670_1 hl670_1
       replace p670 := eq_true p670
       replace q670 := eq_true q670
       go_wp2_with (first | ((with_reducible refine gQc (f := 15) rfl ?_); refine goesL_ (some 23) rfl rfl Try.func15 (by kernel_rfl) rfl #[.agg #[.int .i64 ((rd_T24 l0 x5_1).f0), .slice A670_1 ((rd_T24 l0 x5_1).f1).length c670_1], .int .i64 x1_1] rfl (by (try simp only [List.map_toArray, List.map_cons, List.map_nil]); first | done | rfl | (simp only [List.length_drop, List.length_take]; rfl)) ?_; (with_reducible refine (laws_szMatrix.calls ((rd_T24 l0 x5_1).f0) _ _ ((rd_T24 l0 x5_1).f1) x1_1 t671 _ ?side1 ?side2 A6.out).mono ?_); (case side1 => repeat (first | exact (Kd.C_below HR670_1.out HB.out) | (with_reducible refine Kd.CqA ?_ _) | (with_reducible refine Kd.CqN ?_ _) | (with_reducible refine Kd.CqD ?_))); (case side2 => exact HC670_1.out); rintro e w9 ⟨rfl, hb⟩; refine ⟨_, rfl, ?_⟩; have n0_ := Aq.mk (bQT (by repeat (first | (with_reducible first | exact HB.out | apply bQA | apply bQN | apply bQ1) | exact HB.out)) hb); clear HB; have HB := n0_; clear n0_; (try clear hb); (try clear hb2); (try clear hk); (try clear hi)))
       go_roundg k1
       case measure => have := HK1.out; omega
       case rel => exact ⟨(t671), (wrap64 (x5_1 + 1)), (by first | rfl | (simp; done) | (simp [*]; done)), (by first | rfl | (simp; done) | (simp [*]; done)), H', ⟨by have := HK1.out; omega⟩, ⟨by repeat (first | (with_reducible first | exact HB.out | apply bQA | apply bQN | apply bQ1) | exact HB.out)⟩⟩
     ·rw [if_neg c5] at H
      exact absurd H (by simp)
    ·rw [if_neg c4] at H
     have c4b0 : decide (x5_1 < (l0.length : Int)) = false := decide_eq_false c4
     clear c4
     obtain rfl := Option.some.inj H
     go_wp2
     go_ret
     exact ⟨by first | rfl | (simp [errW_none, errW_some] <;> rfl) | (simp [*, errW_none, errW_some] <;> rfl), by repeat (first | (with_reducible first | exact HB.out | apply bQA | apply bQN | apply bQ1) | exact HB.out)⟩
end Go.Proofs.Ytbaicdgkpnbipaa.P
