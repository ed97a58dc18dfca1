/- Functions of the program and what they tell, as the printing program wrote it. -/
import Derived.Test.YtbalkaphibnpcaaPx0
import Derived.Test.YtbalkaphibnpcaaPx1
namespace Go.Proofs.Ytbalkaphibnpcaa.P
open Go.Shelf Go.RowKit Go.Proofs.YtbalkaphibnpcaaW.PrintWords Go.Proofs.YtbalkaphibnpcaaW.PrintLast Go.Proofs.YtbalkaphibnpcaaW.PrintMore
attribute [local go_sem] max2_int min2_int max_two min_two max_three min_three max_four min_four
set_option linter.unusedVariables false
set_option linter.unusedSimpArgs false
set_option maxHeartbeats 8000000
set_option maxRecDepth 100000
def laws_eqInt64SS.l0 : Nat → List (List Int) → List (List Int) → Int → Option (Bool)
  | 0, _, _, _ => none
  | k + 1, x0, x1, x5 => if x5 < (x0.length : Int) then (if 0 ≤ x5 then (if x5 < (x1.length : Int) then ((laws_eqInt64S.f k (rd_L1 x0 x5) (rd_L1 x1 x5)).bind fun t287 => (if t287 = true then (laws_eqInt64SS.l0 k x0 x1 (wrap64 (x5 + 1))) else (some false))) else (none)) else (none)) else (some true)
def laws_eqInt64SS.f (k : Nat) (l0 : List (List Int)) (l1 : List (List Int)) : Option (Bool) := if (l0.length : Int) = (l1.length : Int) then (laws_eqInt64SS.l0 k l0 l1 0) else (some false)
theorem laws_eqInt64SS.mono_l : ∀ k, (∀ y0 y1 y2, LeO (laws_eqInt64SS.l0 k y0 y1 y2) (laws_eqInt64SS.l0 (k + 1) y0 y1 y2))
 | 0 => fun _ _ _ r h => by simp [laws_eqInt64SS.l0] at h
 | k + 1 => by
  have ih0 := laws_eqInt64SS.mono_l k
  ·intro y0 y1 y2
   unfold laws_eqInt64SS.l0
   repeat' first
   | (with_reducible first | apply ih0 | apply laws_eqInt64S.mono | exact LeO.refl _ | exact LeO.none _ | refine LeO.ite ?_ ?_ | refine LeO.bind ?_ (fun _ => ?_))
   | exact LeO.none _
   | refine LeO.ite ?_ ?_
   | refine LeO.bind ?_ (fun _ => ?_)
theorem laws_eqInt64SS.mono : ∀ a0 a1 k, LeO (laws_eqInt64SS.f k a0 a1) (laws_eqInt64SS.f (k + 1) a0 a1) := by
 intro a0 a1 k
 have ih0 := laws_eqInt64SS.mono_l k
 unfold laws_eqInt64SS.f
 repeat' first
  | (with_reducible first | apply ih0 | apply laws_eqInt64S.mono | exact LeO.refl _ | exact LeO.none _ | refine LeO.ite ?_ ?_ | refine LeO.bind ?_ (fun _ => ?_))
  | exact LeO.none _
  | refine LeO.ite ?_ ?_
  | refine LeO.bind ?_ (fun _ => ?_)
theorem laws_eqInt64SS.calls (k : Nat) (A0 : Option Addr) (c0 : Nat) (l0 : List (List Int)) (A1 : Option Addr) (c1 : Nat) (l1 : List (List Int)) (r : Bool) (w : World) (hr0 : Kd.C (Kd.slice 2 (Kd.int .i64)) w A0 l0.length l0) (hc0 : l0.length ≤ c0) (hr1 : Kd.C (Kd.slice 2 (Kd.int .i64)) w A1 l1.length l1) (hc1 : l1.length ≤ c1) (h : laws_eqInt64SS.f k l0 l1 = some r) :
 Calls Try.prog 13 #[.slice A0 l0.length c0, .slice A1 l1.length c1] w fun e w' => e = .returned (.bool r) ∧ Dq w w' := by
 have HR0 := Aq.mk hr0
 have HC0 := Aq.mk hc0
 clear hr0 hc0
 have HR1 := Aq.mk hr1
 have HC1 := Aq.mk hc1
 clear hr1 hc1
 have H : (if (l0.length : Int) = (l1.length : Int) then (laws_eqInt64SS.l0 k l0 l1 0) else (some false)) = some r := h
 clear h
 by_cases c3 : (l0.length : Int) = (l1.length : Int)
 rotate_left
 ·rw [if_neg c3] at H
  have c3b0 := beq_eq_false_iff_ne.mpr c3
  have c3b1 := bne_iff_ne.mpr c3
  have c3b2 : (l0.length == l1.length) = false := by first | simpa using c3 | (simp at c3 ⊢; omega)
  obtain rfl := Option.some.inj H
  go_enter Try.func13, Try.ntmps13
  go_wp2
  repeat (go_quiet (fail); try go_wp2)
  go_ret
  exact ⟨tS, tD⟩
 rw [if_pos c3] at H
 have c3b0 := beq_iff_eq.mpr c3
 have c3b1 := bne_eq_false_iff_eq.mpr c3
 have c3b2 : (l0.length == l1.length) = true := by first | simpa using c3 | (simp at c3 ⊢; omega)
 clear c3
 replace H' := Aq.mk H
 clear H
 go_enter Try.func13, Try.ntmps13
 go_wp2
 repeat (go_quiet (fail); try go_wp2)
 go_loopg [5] k (fun kq v5 w' => ∃ (x5_1 : Int), v5 = .int .i64 x5_1 ∧ Aq (laws_eqInt64SS.l0 kq l0 l1 x5_1 = some r) ∧ Aq (kq ≤ k) ∧ Dq w w')
 case atStart => exact ⟨(0), tS, H', ⟨Nat.le_refl _⟩, tD⟩
 clear H'
 try clear c1
 try clear c3
 try clear c3b0
 try clear c3b1
 try clear c3b2
 obtain ⟨x5_1, rfl, HA, HK1, ⟨m1, rfl⟩⟩ := hrel
 cases gk with
 | zero => exact absurd HA.out (by simp [laws_eqInt64SS.l0])
 | succ k1 =>
  have H := HA.out
  clear HA
  simp only [laws_eqInt64SS.l0] at H
  by_cases c4 : x5_1 < (l0.length : Int)
  rotate_left
  ·rw [if_neg c4] at H
   have c4b0 := decide_eq_false c4
   clear c4
   obtain rfl := Option.some.inj H
   go_wp2
   repeat (go_quiet (fail); try go_wp2)
   go_ret
   exact ⟨tS, tD⟩
  rw [if_pos c4] at H
  have c4b0 := decide_eq_true c4
  clear c4
  by_cases c5 : 0 ≤ x5_1
  rotate_left
  ·rw [if_neg c5] at H
   exact absurd H (by simp)
  rw [if_pos c5] at H
  have c5b0 := decide_eq_true c5
  clear c5
  by_cases c6 : x5_1 < (l1.length : Int)
  rotate_left
  ·rw [if_neg c6] at H
   exact absurd H (by simp)
  rw [if_pos c6] at H
  have c6b0 := decide_eq_true c6
  clear c6
  obtain ⟨t287, A7, H⟩ := qBd H
  by_cases c8 : t287 = true
  ·subst c8
   rw [if_pos rfl] at H
   replace H' := Aq.mk H
   clear H
   have p285 : 0 ≤ (x5_1 : Int) := of_decide_eq_true tA
   have q285 : x5_1 < (l0.length : Int) := of_decide_eq_true tA
   obtain ⟨ad285, A285_0, c285_0, e285, hx285_0, hl285_0, hi285_0⟩ := at_L1 HR0.out x5_1 p285 q285
   cases e285
   have HR285_0 := Aq.mk hi285_0
   have HC285_0 := Aq.mk hl285_0
   clear hi285_0 hl285_0
   replace p285 := eq_true p285
   replace q285 := eq_true q285
   have p286 : 0 ≤ (x5_1 : Int) := of_decide_eq_true tA
   have q286 : x5_1 < (l1.length : Int) := of_decide_eq_true tA
   obtain ⟨ad286, A286_0, c286_0, e286, hx286_0, hl286_0, hi286_0⟩ := at_L1 HR1.out x5_1 p286 q286
   cases e286
   have HR286_0 := Aq.mk hi286_0
   have HC286_0 := Aq.mk hl286_0
   clear hi286_0 hl286_0
   replace p286 := eq_true p286
   replace q286 := eq_true q286
   go_wp2_with (first | (go_at_call 22; (with_reducible refine (laws_eqInt64S.calls k1 _ _ (rd_L1 l0 x5_1) _ _ (rd_L1 l1 x5_1) true _ ?s1 ?s2 ?s3 ?s4 A7.out).mono ?_); (case s1 => exact tC HR285_0.out); (case s2 => exact HC285_0.out); (case s3 => exact tC HR286_0.out); (case s4 => exact HC286_0.out); rintro e w' ⟨rfl, ⟨nd, rfl⟩⟩; (try exact tW)))
   repeat (go_quiet (first | (go_at_call 22; (with_reducible refine (laws_eqInt64S.calls k1 _ _ (rd_L1 l0 x5_1) _ _ (rd_L1 l1 x5_1) true _ ?s1 ?s2 ?s3 ?s4 A7.out).mono ?_); (case s1 => exact tC HR285_0.out); (case s2 => exact HC285_0.out); (case s3 => exact tC HR286_0.out); (case s4 => exact HC286_0.out); rintro e w' ⟨rfl, ⟨nd, rfl⟩⟩; (try exact tW))); try go_wp2_with (first | (go_at_call 22; (with_reducible refine (laws_eqInt64S.calls k1 _ _ (rd_L1 l0 x5_1) _ _ (rd_L1 l1 x5_1) true _ ?s1 ?s2 ?s3 ?s4 A7.out).mono ?_); (case s1 => exact tC HR285_0.out); (case s2 => exact HC285_0.out); (case s3 => exact tC HR286_0.out); (case s4 => exact HC286_0.out); rintro e w' ⟨rfl, ⟨nd, rfl⟩⟩; (try exact tW))))
   go_roundg k1
   case measure => have := HK1.out; omega
   case rel => exact ⟨(wrap64 (x5_1 + 1)), tS, H', ⟨by have := HK1.out; omega⟩, tD⟩
  replace c8 := Bool.eq_false_iff.mpr c8
  subst c8
  rw [if_neg (show ¬ (false = true) by decide)] at H
  obtain rfl := Option.some.inj H
  have p285 : 0 ≤ (x5_1 : Int) := of_decide_eq_true tA
  have q285 : x5_1 < (l0.length : Int) := of_decide_eq_true tA
  obtain ⟨ad285, A285_0, c285_0, e285, hx285_0, hl285_0, hi285_0⟩ := at_L1 HR0.out x5_1 p285 q285
  cases e285
  have HR285_0 := Aq.mk hi285_0
  have HC285_0 := Aq.mk hl285_0
  clear hi285_0 hl285_0
  replace p285 := eq_true p285
  replace q285 := eq_true q285
  have p286 : 0 ≤ (x5_1 : Int) := of_decide_eq_true tA
  have q286 : x5_1 < (l1.length : Int) := of_decide_eq_true tA
  obtain ⟨ad286, A286_0, c286_0, e286, hx286_0, hl286_0, hi286_0⟩ := at_L1 HR1.out x5_1 p286 q286
  cases e286
  have HR286_0 := Aq.mk hi286_0
  have HC286_0 := Aq.mk hl286_0
  clear hi286_0 hl286_0
  replace p286 := eq_true p286
  replace q286 := eq_true q286
  go_wp2_with (first | (go_at_call 22; (with_reducible refine (laws_eqInt64S.calls k1 _ _ (rd_L1 l0 x5_1) _ _ (rd_L1 l1 x5_1) false _ ?s1 ?s2 ?s3 ?s4 A7.out).mono ?_); (case s1 => exact tC HR285_0.out); (case s2 => exact HC285_0.out); (case s3 => exact tC HR286_0.out); (case s4 => exact HC286_0.out); rintro e w' ⟨rfl, ⟨nd, rfl⟩⟩; (try exact tW)))
  repeat (go_quiet (first | (go_at_call 22; (with_reducible refine (laws_eqInt64S.calls k1 _ _ (rd_L1 l0 x5_1) _ _ (rd_L1 l1 x5_1) false _ ?s1 ?s2 ?s3 ?s4 A7.out).mono ?_); (case s1 => exact tC HR285_0.out); (case s2 => exact HC285_0.out); (case s3 => exact tC HR286_0.out); (case s4 => exact HC286_0.out); rintro e w' ⟨rfl, ⟨nd, rfl⟩⟩; (try exact tW))); try go_wp2_with (first | (go_at_call 22; (with_reducible refine (laws_eqInt64S.calls k1 _ _ (rd_L1 l0 x5_1) _ _ (rd_L1 l1 x5_1) false _ ?s1 ?s2 ?s3 ?s4 A7.out).mono ?_); (case s1 => exact tC HR285_0.out); (case s2 => exact HC285_0.out); (case s3 => exact tC HR286_0.out); (case s4 => exact HC286_0.out); rintro e w' ⟨rfl, ⟨nd, rfl⟩⟩; (try exact tW))))
  go_ret
  exact ⟨tS, tD⟩
end Go.Proofs.Ytbalkaphibnpcaa.P
