/- Functions of the program and what they tell, as the printing program wrote it. -/
import Derived.Test.YtkhjoomjjdgkjaaPx0
import Derived.Test.YtkhjoomjjdgkjaaPx30
namespace Go.Proofs.Ytkhjoomjjdgkjaa.P
open Go.Shelf Go.RowKit Go.Proofs.YtkhjoomjjdgkjaaW.PrintWords Go.Proofs.YtkhjoomjjdgkjaaW.PrintLast Go.Proofs.YtkhjoomjjdgkjaaW.PrintMore
attribute [local go_sem] max2_int min2_int max_two min_two max_three min_three max_four min_four
set_option linter.unusedVariables false
set_option linter.unusedSimpArgs false
set_option maxHeartbeats 8000000
set_option maxRecDepth 100000
def slices_IndexFunc_int64_int64_AT_impl_echelon_1.l0 : Nat → List Int → Int → Int → Int → Option (Int)
  | 0, _, _, _, _ => none
  | k + 1, x0, x7, x8, x49000 => if x8 < x7 then (if 0 ≤ x8 then (if x8 < (x0.length : Int) then ((impl_echelon_1.f (rd x0 x8) x49000).bind fun t904 => (if t904 = true then (some x8) else (slices_IndexFunc_int64_int64_AT_impl_echelon_1.l0 k x0 x7 (wrap64 (x8 + 1)) x49000))) else (none)) else (none)) else (some (-1))
def slices_IndexFunc_int64_int64_AT_impl_echelon_1.f (k : Nat) (l0 : List Int) (a1_0 : Int) : Option (Int) := slices_IndexFunc_int64_int64_AT_impl_echelon_1.l0 k l0 (l0.length : Int) 0 a1_0
theorem slices_IndexFunc_int64_int64_AT_impl_echelon_1.mono_l : ∀ k, (∀ y0 y1 y2 y3, LeO (slices_IndexFunc_int64_int64_AT_impl_echelon_1.l0 k y0 y1 y2 y3) (slices_IndexFunc_int64_int64_AT_impl_echelon_1.l0 (k + 1) y0 y1 y2 y3))
 | 0 => fun _ _ _ _ r h => by simp [slices_IndexFunc_int64_int64_AT_impl_echelon_1.l0] at h
 | k + 1 => by
  have ih0 := slices_IndexFunc_int64_int64_AT_impl_echelon_1.mono_l k
  ·intro y0 y1 y2 y3
   unfold slices_IndexFunc_int64_int64_AT_impl_echelon_1.l0
   repeat' first
   | (with_reducible first | apply ih0 | exact LeO.refl _ | exact LeO.none _ | refine LeO.ite ?_ ?_ | refine LeO.bind ?_ (fun _ => ?_))
   | exact LeO.none _
   | refine LeO.ite ?_ ?_
   | refine LeO.bind ?_ (fun _ => ?_)
theorem slices_IndexFunc_int64_int64_AT_impl_echelon_1.mono : ∀ a0 a1 k, LeO (slices_IndexFunc_int64_int64_AT_impl_echelon_1.f k a0 a1) (slices_IndexFunc_int64_int64_AT_impl_echelon_1.f (k + 1) a0 a1) := by
 intro a0 a1 k
 have ih0 := slices_IndexFunc_int64_int64_AT_impl_echelon_1.mono_l k
 unfold slices_IndexFunc_int64_int64_AT_impl_echelon_1.f
 repeat' first
  | (with_reducible first | apply ih0 | exact LeO.refl _ | exact LeO.none _ | refine LeO.ite ?_ ?_ | refine LeO.bind ?_ (fun _ => ?_))
  | exact LeO.none _
  | refine LeO.ite ?_ ?_
  | refine LeO.bind ?_ (fun _ => ?_)
theorem slices_IndexFunc_int64_int64_AT_impl_echelon_1.calls (k : Nat) (A0 : Option Addr) (c0 : Nat) (l0 : List Int) (g1_0 : Addr) (a1_0 : Int) (r : Int) (w : World) (hr0 : Kd.C (Kd.int .i64) w A0 l0.length l0) (hc0 : l0.length ≤ c0) (hb1_0 : AtC w g1_0 [.int .i64 a1_0]) (h : slices_IndexFunc_int64_int64_AT_impl_echelon_1.f k l0 a1_0 = some r) :
 Calls Try.prog 90 #[.slice A0 l0.length c0, .func (.func 92) #[] #[.pointer (some g1_0)]] w fun e w' => e = .returned (.int .i64 r) ∧ Dq w w' := by
 have eg92 : ∀ (args_ : Array Value) (w_ : World), (callFunc 92 args_).run Try.prog w_ = .ok (.enter 92 args_) w_ := enters_of Try.func92 (by kernel_rfl) rfl
 have HR0 := Aq.mk hr0
 have HC0 := Aq.mk hc0
 clear hr0 hc0
 have BK48 := Aq.mk hb1_0
 clear hb1_0
 have H : (slices_IndexFunc_int64_int64_AT_impl_echelon_1.l0 k l0 (l0.length : Int) 0 a1_0) = some r := h
 clear h
 replace H' := Aq.mk H
 clear H
 go_enter Try.func90, Try.ntmps90
 go_wp2
 go_loopg [8] k (fun kq v8 w' => ∃ (x8_1 : Int), v8 = .int .i64 x8_1 ∧ Aq (slices_IndexFunc_int64_int64_AT_impl_echelon_1.l0 kq l0 (l0.length : Int) x8_1 a1_0 = some r) ∧ Aq (kq ≤ k) ∧ Dq w w')
 case atStart => exact ⟨(0), tS, H', ⟨Nat.le_refl _⟩, tD⟩
 clear H'
 obtain ⟨x8_1, rfl, HA, HK1, ⟨m1, rfl⟩⟩ := hrel
 cases gk with
 | zero => exact absurd HA.out (by simp [slices_IndexFunc_int64_int64_AT_impl_echelon_1.l0])
 | succ k1 =>
  have H := HA.out
  clear HA
  simp only [slices_IndexFunc_int64_int64_AT_impl_echelon_1.l0] at H
  by_cases c3 : x8_1 < (l0.length : Int)
  rotate_left
  ·rw [if_neg c3] at H
   have c3b0 := decide_eq_false c3
   clear c3
   obtain rfl := Option.some.inj H
   go_wp2
   go_ret
   exact ⟨tS, tD⟩
  rw [if_pos c3] at H
  have c3b0 := decide_eq_true c3
  clear c3
  by_cases c4 : 0 ≤ x8_1
  rotate_left
  ·rw [if_neg c4] at H
   exact absurd H (by simp)
  rw [if_pos c4] at H
  have c4b0 := decide_eq_true c4
  clear c4
  by_cases c5 : x8_1 < (l0.length : Int)
  rotate_left
  ·rw [if_neg c5] at H
   exact absurd H (by simp)
  rw [if_pos c5] at H
  have c5b0 := decide_eq_true c5
  clear c5
  obtain ⟨t904, A6, H⟩ := qBd H
  by_cases c7 : t904 = true
  ·subst c7
   rw [if_pos rfl] at H
   obtain rfl := Option.some.inj H
   have p903 : 0 ≤ (x8_1 : Int) := of_decide_eq_true tA
   have q903 : x8_1 < (l0.length : Int) := of_decide_eq_true tA
   obtain ⟨ad903, e903, hx903_0⟩ := Kd.at_int HR0.out x8_1 p903 q903
   cases e903
   replace p903 := eq_true p903
   replace q903 := eq_true q903
   go_wp2_with (first | (go_at_fn 92; (with_reducible refine (impl_echelon_1.calls (rd l0 x8_1) (g1_0 : Addr) a1_0 true _ ?s1 A6.out).mono ?_); (case s1 => repeat (first | exact BK48.out | (with_reducible refine AtC.alloc ?_ _) | (with_reducible refine AtC.drewN ?_ _) | (with_reducible refine AtC.drew ?_))); rintro e w' ⟨rfl, ⟨nd, rfl⟩⟩))
   go_ret
   exact ⟨tS, tD⟩
  replace c7 := Bool.eq_false_iff.mpr c7
  subst c7
  rw [if_neg (show ¬ (false = true) by decide)] at H
  replace H' := Aq.mk H
  clear H
  have p903 : 0 ≤ (x8_1 : Int) := of_decide_eq_true tA
  have q903 : x8_1 < (l0.length : Int) := of_decide_eq_true tA
  obtain ⟨ad903, e903, hx903_0⟩ := Kd.at_int HR0.out x8_1 p903 q903
  cases e903
  replace p903 := eq_true p903
  replace q903 := eq_true q903
  go_wp2_with (first | (go_at_fn 92; (with_reducible refine (impl_echelon_1.calls (rd l0 x8_1) (g1_0 : Addr) a1_0 false _ ?s1 A6.out).mono ?_); (case s1 => repeat (first | exact BK48.out | (with_reducible refine AtC.alloc ?_ _) | (with_reducible refine AtC.drewN ?_ _) | (with_reducible refine AtC.drew ?_))); rintro e w' ⟨rfl, ⟨nd, rfl⟩⟩))
  go_roundg k1
  case measure => have := HK1.out; omega
  case rel => exact ⟨(wrap64 (x8_1 + 1)), tS, H', ⟨by have := HK1.out; omega⟩, tD⟩
end Go.Proofs.Ytkhjoomjjdgkjaa.P
