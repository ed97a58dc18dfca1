/- Functions of the program and what they tell, as the printing program wrote it. -/
import Derived.Test.YthjfilmdobkmlaaPx0
import Derived.Test.YthjfilmdobkmlaaPx13
namespace Go.Proofs.Ythjfilmdobkmlaa.P
open Go.Shelf Go.RowKit Go.Proofs.YthjfilmdobkmlaaW.PrintWords Go.Proofs.YthjfilmdobkmlaaW.PrintLast Go.Proofs.YthjfilmdobkmlaaW.PrintMore
attribute [local go_sem] max2_int min2_int max_two min_two max_three min_three max_four min_four
set_option linter.unusedVariables false
set_option linter.unusedSimpArgs false
set_option maxHeartbeats 8000000
set_option maxRecDepth 100000
def impl_matricesCode_AT_impl_SolveRows_1.f (k : Nat) (a0_0 : Int) (l0_1 : List Int) (a0_2 : Int) (l1 : List (S27)) : Option (Int) := (impl_Matrix_AT_impl_matricesCode_1_89.f k l1).bind fun t270 => (if t270 = true then (some 1) else ((impl_SolveRows_1.f a0_0 l0_1 a0_2).bind fun t271 => (if t271 = true then (some 0) else (some 2))))
theorem impl_matricesCode_AT_impl_SolveRows_1.mono : ∀ a0 a1 a2 a3 k, LeO (impl_matricesCode_AT_impl_SolveRows_1.f k a0 a1 a2 a3) (impl_matricesCode_AT_impl_SolveRows_1.f (k + 1) a0 a1 a2 a3) := by
 intro a0 a1 a2 a3 k
 unfold impl_matricesCode_AT_impl_SolveRows_1.f
 repeat' first
  | (with_reducible first | apply impl_Matrix_AT_impl_matricesCode_1_89.mono | exact LeO.refl _ | exact LeO.none _ | refine LeO.ite ?_ ?_ | refine LeO.bind ?_ (fun _ => ?_))
  | exact LeO.none _
  | refine LeO.ite ?_ ?_
  | refine LeO.bind ?_ (fun _ => ?_)
theorem impl_matricesCode_AT_impl_SolveRows_1.calls (k : Nat) (g0_0 : Addr) (g0_1 : Addr) (a0_0 : Int) (A0_1 : Option Addr) (c0_1 : Nat) (l0_1 : List Int) (a0_2 : Int) (A1 : Option Addr) (c1 : Nat) (l1 : List (S27)) (r : Int) (w : World) (hr0_1 : Kd.C (Kd.int .i64) w A0_1 l0_1.length l0_1) (hc0_1 : l0_1.length ≤ c0_1) (hr1 : Kd.C k27 w A1 l1.length l1) (hc1 : l1.length ≤ c1) (hb0_0 : AtC w g0_0 [.int .i64 a0_0, .slice A0_1 l0_1.length c0_1]) (hb0_1 : AtC w g0_1 [.int .i64 a0_2]) (h : impl_matricesCode_AT_impl_SolveRows_1.f k a0_0 l0_1 a0_2 l1 = some r) :
 Calls Try.prog 47 #[.func (.func 48) #[] #[.pointer (some g0_0), .pointer (some g0_1)], .slice A1 l1.length c1] w fun e w' => e = .returned (.int .i64 r) ∧ Below w.heap.size w w' := by
 have eg48 : ∀ (args_ : Array Value) (w_ : World), (callFunc 48 args_).run Try.prog w_ = .ok (.enter 48 args_) w_ := enters_of Try.func48 (by kernel_rfl) rfl
 have HR0_1 := Aq.mk hr0_1
 have HC0_1 := Aq.mk hc0_1
 clear hr0_1 hc0_1
 have HR1 := Aq.mk hr1
 have HC1 := Aq.mk hc1
 clear hr1 hc1
 have BK40 := Aq.mk hb0_0
 clear hb0_0
 have BK41 := Aq.mk hb0_1
 clear hb0_1
 have HB := Aq.mk (Below.refl w.heap.size w)
 have H : ((impl_Matrix_AT_impl_matricesCode_1_89.f k l1).bind fun t270 => (if t270 = true then (some 1) else ((impl_SolveRows_1.f a0_0 l0_1 a0_2).bind fun t271 => (if t271 = true then (some 0) else (some 2))))) = some r := h
 clear h
 obtain ⟨t270, A3, H⟩ := qBd H
 by_cases c4 : t270 = true
 ·subst c4
  rw [if_pos rfl] at H
  obtain rfl := Option.some.inj H
  go_enter Try.func47, Try.ntmps47
  go_wp2_with (first | ((with_reducible refine gQc (f := 89) rfl ?_); refine goesL_ (some 7) rfl rfl Try.func89 (by kernel_rfl) rfl #[.slice A1 l1.length c1, .func (.func 90) #[] #[]] rfl tL ?_; (with_reducible refine (impl_Matrix_AT_impl_matricesCode_1_89.calls k _ _ l1  true _ ?s1 ?s2 A3.out).mono ?_); (case s1 => exact tC HR1.out); (case s2 => exact HC1.out); rintro e w5 ⟨rfl, hb⟩; refine ⟨_, rfl, ?_⟩; refine qM1 (bQT tB hb) ?_; clear HB; intro HB; (try clear hb); (try clear hb2); (try clear hk); (try clear hi)))
  go_ret
  exact ⟨tE, tB⟩
 replace c4 := Bool.eq_false_iff.mpr c4
 subst c4
 rw [if_neg (show ¬ (false = true) by decide)] at H
 obtain ⟨t271, A6, H⟩ := qBd H
 by_cases c7 : t271 = true
 ·subst c7
  rw [if_pos rfl] at H
  obtain rfl := Option.some.inj H
  go_enter Try.func47, Try.ntmps47
  go_wp2_with (first | ((with_reducible refine gQc (f := 89) rfl ?_); refine goesL_ (some 7) rfl rfl Try.func89 (by kernel_rfl) rfl #[.slice A1 l1.length c1, .func (.func 90) #[] #[]] rfl tL ?_; (with_reducible refine (impl_Matrix_AT_impl_matricesCode_1_89.calls k _ _ l1  false _ ?s1 ?s2 A3.out).mono ?_); (case s1 => exact tC HR1.out); (case s2 => exact HC1.out); rintro e w8 ⟨rfl, hb⟩; refine ⟨_, rfl, ?_⟩; refine qM1 (bQT tB hb) ?_; clear HB; intro HB; (try clear hb); (try clear hb2); (try clear hk); (try clear hi)) | (go_at_fn 48; (with_reducible refine (impl_SolveRows_1.calls (g0_0 : Addr) a0_0 A0_1 c0_1 l0_1 (g0_1 : Addr) a0_2 true _ ?s1 ?s2 ?s3 ?s4 A6.out).mono ?_); (case s1 => exact tC ((Kd.C_below HR0_1.out HB.out))); (case s2 => exact HC0_1.out); (case s3 => repeat (first | exact (AtC.below BK40.out HB.out) | (with_reducible refine AtC.alloc ?_ _) | (with_reducible refine AtC.drewN ?_ _) | (with_reducible refine AtC.drew ?_))); (case s4 => repeat (first | exact (AtC.below BK41.out HB.out) | (with_reducible refine AtC.alloc ?_ _) | (with_reducible refine AtC.drewN ?_ _) | (with_reducible refine AtC.drew ?_))); rintro e w9 ⟨rfl, hb⟩; refine qM1 (bQT tB hb) ?_; clear HB; intro HB; (try clear hb); (try clear hb2); (try clear hk); (try clear hi)))
  go_ret
  exact ⟨tE, tB⟩
 replace c7 := Bool.eq_false_iff.mpr c7
 subst c7
 rw [if_neg (show ¬ (false = true) by decide)] at H
 obtain rfl := Option.some.inj H
 go_enter Try.func47, Try.ntmps47
 go_wp2_with (first | ((with_reducible refine gQc (f := 89) rfl ?_); refine goesL_ (some 7) rfl rfl Try.func89 (by kernel_rfl) rfl #[.slice A1 l1.length c1, .func (.func 90) #[] #[]] rfl tL ?_; (with_reducible refine (impl_Matrix_AT_impl_matricesCode_1_89.calls k _ _ l1  false _ ?s1 ?s2 A3.out).mono ?_); (case s1 => exact tC HR1.out); (case s2 => exact HC1.out); rintro e w10 ⟨rfl, hb⟩; refine ⟨_, rfl, ?_⟩; refine qM1 (bQT tB hb) ?_; clear HB; intro HB; (try clear hb); (try clear hb2); (try clear hk); (try clear hi)) | (go_at_fn 48; (with_reducible refine (impl_SolveRows_1.calls (g0_0 : Addr) a0_0 A0_1 c0_1 l0_1 (g0_1 : Addr) a0_2 false _ ?s1 ?s2 ?s3 ?s4 A6.out).mono ?_); (case s1 => exact tC ((Kd.C_below HR0_1.out HB.out))); (case s2 => exact HC0_1.out); (case s3 => repeat (first | exact (AtC.below BK40.out HB.out) | (with_reducible refine AtC.alloc ?_ _) | (with_reducible refine AtC.drewN ?_ _) | (with_reducible refine AtC.drew ?_))); (case s4 => repeat (first | exact (AtC.below BK41.out HB.out) | (with_reducible refine AtC.alloc ?_ _) | (with_reducible refine AtC.drewN ?_ _) | (with_reducible refine AtC.drew ?_))); rintro e w11 ⟨rfl, hb⟩; refine qM1 (bQT tB hb) ?_; clear HB; intro HB; (try clear hb); (try clear hb2); (try clear hk); (try clear hi)))
 go_ret
 exact ⟨tE, tB⟩
end Go.Proofs.Ythjfilmdobkmlaa.P
