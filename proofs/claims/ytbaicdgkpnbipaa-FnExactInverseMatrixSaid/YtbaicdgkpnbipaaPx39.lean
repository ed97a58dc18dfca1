/- Functions of the program and what they tell, as the printing program wrote it. -/
import Derived.Test.YtbaicdgkpnbipaaPx0
import Derived.Test.YtbaicdgkpnbipaaPx21
namespace Go.Proofs.Ytbaicdgkpnbipaa.P
open Go.Shelf Go.RowKit Go.Proofs.YtbaicdgkpnbipaaW.PrintWords Go.Proofs.YtbaicdgkpnbipaaW.PrintLast Go.Proofs.YtbaicdgkpnbipaaW.PrintMore
attribute [local go_sem] max2_int min2_int max_two min_two max_three min_three max_four min_four
set_option linter.unusedVariables false
set_option linter.unusedSimpArgs false
def impl_InverseMatrix_1.f (a0_0 : Int) (l0_1 : List Int) (a1_0 : Int) : Option (Bool) := some (a0_0 == a1_0)
set_option maxHeartbeats 8000000 in
set_option maxRecDepth 100000 in
theorem impl_InverseMatrix_1.calls (g0_0 : Addr) (a0_0 : Int) (A0_1 : Option Addr) (c0_1 : Nat) (l0_1 : List Int) (g1_0 : Addr) (a1_0 : Int) (r : Bool) (w : World) (hr0_1 : Kd.C (Kd.int .i64) w A0_1 l0_1.length l0_1) (hc0_1 : l0_1.length ≤ c0_1) (hb0_0 : AtC w g0_0 [.int .i64 a0_0, .slice A0_1 l0_1.length c0_1]) (hb1_0 : AtC w g1_0 [.int .i64 a1_0]) (h : impl_InverseMatrix_1.f a0_0 l0_1 a1_0 = some r) :
 Calls Try.prog 65 #[.pointer (some g0_0), .pointer (some g1_0)] w fun e w' => e = .returned (.bool r) ∧ Dq w w' := by
 have HR0_1 := Aq.mk hr0_1
 have HC0_1 := Aq.mk hc0_1
 clear hr0_1 hc0_1
 have BK40 := Aq.mk hb0_0
 clear hb0_0
 have BK48 := Aq.mk hb1_0
 clear hb1_0
 have H : (some (a0_0 == a1_0)) = some r := h
 clear h
 obtain rfl := Option.some.inj H
 have hcz3_0 : w.cell? g0_0 = some (.int .i64 a0_0) := AtC.cell0 BK40.out _ rfl
 have hcz3_1 : w.cell? ⟨g0_0.block, g0_0.off + 1, none⟩ = some (.slice A0_1 l0_1.length c0_1) := AtC.cell BK40.out 1 _ (by decide) rfl
 have hcz4_0 : w.cell? g1_0 = some (.int .i64 a1_0) := AtC.cell0 BK48.out _ rfl
 go_enter Try.func65, Try.ntmps65
 go_wp2
 go_ret
 exact ⟨by first | rfl | (simp; done) | (simp [*]; done), by repeat (first | exact Dq.refl _ | apply Dq.step)⟩
def impl_matricesCode_AT_impl_InverseMatrix_1.f (k : Nat) (a0_0 : Int) (l0_1 : List Int) (a0_2 : Int) (l1 : List (S26)) : Option (Int) := (impl_Matrix_AT_impl_matricesCode_1_100.f k l1).bind fun t304 => (if t304 = true then (some 1) else ((impl_InverseMatrix_1.f a0_0 l0_1 a0_2).bind fun t305 => (if t305 = true then (some 0) else (some 2))))
theorem impl_matricesCode_AT_impl_InverseMatrix_1.mono : ∀ a0 a1 a2 a3 k, LeO (impl_matricesCode_AT_impl_InverseMatrix_1.f k a0 a1 a2 a3) (impl_matricesCode_AT_impl_InverseMatrix_1.f (k + 1) a0 a1 a2 a3) := by
 intro a0 a1 a2 a3 k
 unfold impl_matricesCode_AT_impl_InverseMatrix_1.f
 repeat' first
  | (with_reducible first | exact impl_Matrix_AT_impl_matricesCode_1_100.mono _ _ | exact LeO.refl _ | exact LeO.none _ | refine LeO.ite ?_ ?_ | refine LeO.bind ?_ (fun _ => ?_))
  | exact LeO.none _
  | refine LeO.ite ?_ ?_
  | refine LeO.bind ?_ (fun _ => ?_)
set_option maxHeartbeats 8000000 in
set_option maxRecDepth 100000 in
theorem impl_matricesCode_AT_impl_InverseMatrix_1.calls (k : Nat) (g0_0 : Addr) (g0_1 : Addr) (a0_0 : Int) (A0_1 : Option Addr) (c0_1 : Nat) (l0_1 : List Int) (a0_2 : Int) (A1 : Option Addr) (c1 : Nat) (l1 : List (S26)) (r : Int) (w : World) (hr0_1 : Kd.C (Kd.int .i64) w A0_1 l0_1.length l0_1) (hc0_1 : l0_1.length ≤ c0_1) (hr1 : Kd.C k26 w A1 l1.length l1) (hc1 : l1.length ≤ c1) (hb0_0 : AtC w g0_0 [.int .i64 a0_0, .slice A0_1 l0_1.length c0_1]) (hb0_1 : AtC w g0_1 [.int .i64 a0_2]) (h : impl_matricesCode_AT_impl_InverseMatrix_1.f k a0_0 l0_1 a0_2 l1 = some r) :
 Calls Try.prog 64 #[.func (.func 65) #[] #[.pointer (some g0_0), .pointer (some g0_1)], .slice A1 l1.length c1] w fun e w' => e = .returned (.int .i64 r) ∧ Below w.heap.size w w' := by
 have eg65 : ∀ (args_ : Array Value) (w_ : World), (callFunc 65 args_).run Try.prog w_ = .ok (.enter 65 args_) w_ := enters_of Try.func65 (by kernel_rfl) rfl
 have HR0_1 := Aq.mk hr0_1
 have HC0_1 := Aq.mk hc0_1
 clear hr0_1 hc0_1
 have HR1 := Aq.mk hr1
 have HC1 := Aq.mk hc1
 clear hr1 hc1
 have BK40 := Aq.mk hb0_0
 clear hb0_0
 have BK41 := Aq.mk hb0_1
 clear hb0_1
 have HB := Aq.mk (Below.refl w.heap.size w)
 have H : ((impl_Matrix_AT_impl_matricesCode_1_100.f k l1).bind fun t304 => (if t304 = true then (some 1) else ((impl_InverseMatrix_1.f a0_0 l0_1 a0_2).bind fun t305 => (if t305 = true then (some 0) else (some 2))))) = some r := h
 clear h
 replace H := Option.bind_eq_some_iff.mp H
 obtain ⟨t304, A30, H⟩ := H
 replace H : (if t304 = true then (some 1) else ((impl_InverseMatrix_1.f a0_0 l0_1 a0_2).bind fun t305 => (if t305 = true then (some 0) else (some 2)))) = some r := H
 have A3 := Aq.mk A30
 clear A30
 by_cases c4 : t304 = true
 ·subst c4
  have H1 : (some 1) = some r := by rw [if_pos rfl] at H; exact H
  clear H
  have H := H1
  clear H1
  obtain rfl := Option.some.inj H
  go_enter Try.func64, Try.ntmps64
  go_wp2_with (first | ((with_reducible refine gQc (f := 100) rfl ?_); refine goesL_ (some 7) rfl rfl Try.func100 (by kernel_rfl) rfl #[.slice A1 l1.length c1, .func (.func 101) #[] #[]] rfl (by (try simp only [List.map_toArray, List.map_cons, List.map_nil]); first | done | rfl | (simp only [List.length_drop, List.length_take]; rfl)) ?_; (with_reducible refine (impl_Matrix_AT_impl_matricesCode_1_100.calls k _ _ l1  true _ ?side1 ?side2 A3.out).mono ?_); (case side1 => repeat (first | exact HR1.out | (with_reducible refine Kd.CqA ?_ _) | (with_reducible refine Kd.CqN ?_ _) | (with_reducible refine Kd.CqD ?_))); (case side2 => exact HC1.out); rintro e w5 ⟨rfl, hb⟩; refine ⟨_, rfl, ?_⟩; have n0_ := Aq.mk (bQT (by repeat (first | (with_reducible first | exact HB.out | apply bQA | apply bQN | apply bQ1) | exact HB.out)) hb); clear HB; have HB := n0_; clear n0_; (try clear hb); (try clear hb2); (try clear hk); (try clear hi)))
  go_ret
  exact ⟨by first | rfl | (simp [errW_none, errW_some] <;> rfl) | (simp [*, errW_none, errW_some] <;> rfl), by repeat (first | (with_reducible first | exact HB.out | apply bQA | apply bQN | apply bQ1) | exact HB.out)⟩
 ·replace c4 := Bool.eq_false_iff.mpr c4
  subst c4
  have H1 : ((impl_InverseMatrix_1.f a0_0 l0_1 a0_2).bind fun t305 => (if t305 = true then (some 0) else (some 2))) = some r := by rw [if_neg (show ¬ (false = true) by decide)] at H; exact H
  clear H
  have H := H1
  clear H1
  replace H := Option.bind_eq_some_iff.mp H
  obtain ⟨t305, A60, H⟩ := H
  replace H : (if t305 = true then (some 0) else (some 2)) = some r := H
  have A6 := Aq.mk A60
  clear A60
  by_cases c7 : t305 = true
  ·subst c7
   have H1 : (some 0) = some r := by rw [if_pos rfl] at H; exact H
   clear H
   have H := H1
   clear H1
   obtain rfl := Option.some.inj H
   go_enter Try.func64, Try.ntmps64
   go_wp2_with (first | ((with_reducible refine gQc (f := 100) rfl ?_); refine goesL_ (some 7) rfl rfl Try.func100 (by kernel_rfl) rfl #[.slice A1 l1.length c1, .func (.func 101) #[] #[]] rfl (by (try simp only [List.map_toArray, List.map_cons, List.map_nil]); first | done | rfl | (simp only [List.length_drop, List.length_take]; rfl)) ?_; (with_reducible refine (impl_Matrix_AT_impl_matricesCode_1_100.calls k _ _ l1  false _ ?side1 ?side2 A3.out).mono ?_); (case side1 => repeat (first | exact HR1.out | (with_reducible refine Kd.CqA ?_ _) | (with_reducible refine Kd.CqN ?_ _) | (with_reducible refine Kd.CqD ?_))); (case side2 => exact HC1.out); rintro e w8 ⟨rfl, hb⟩; refine ⟨_, rfl, ?_⟩; have n0_ := Aq.mk (bQT (by repeat (first | (with_reducible first | exact HB.out | apply bQA | apply bQN | apply bQ1) | exact HB.out)) hb); clear HB; have HB := n0_; clear n0_; (try clear hb); (try clear hb2); (try clear hk); (try clear hi)) | (go_at_fn 65; (with_reducible refine (impl_InverseMatrix_1.calls (g0_0 : Addr) a0_0 A0_1 c0_1 l0_1 (g0_1 : Addr) a0_2 true _ ?side1 ?side2 ?side3 ?side4 A6.out).mono ?_); (case side1 => repeat (first | exact (Kd.C_below HR0_1.out HB.out) | (with_reducible refine Kd.CqA ?_ _) | (with_reducible refine Kd.CqN ?_ _) | (with_reducible refine Kd.CqD ?_))); (case side2 => exact HC0_1.out); (case side3 => repeat (first | exact (AtC.below BK40.out HB.out) | (with_reducible refine AtC.alloc ?_ _) | (with_reducible refine AtC.drewN ?_ _) | (with_reducible refine AtC.drew ?_))); (case side4 => repeat (first | exact (AtC.below BK41.out HB.out) | (with_reducible refine AtC.alloc ?_ _) | (with_reducible refine AtC.drewN ?_ _) | (with_reducible refine AtC.drew ?_))); rintro e w' ⟨rfl, ⟨nd, rfl⟩⟩))
   go_ret
   exact ⟨by first | rfl | (simp [errW_none, errW_some] <;> rfl) | (simp [*, errW_none, errW_some] <;> rfl), by repeat (first | (with_reducible first | exact HB.out | apply bQA | apply bQN | apply bQ1) | exact HB.out)⟩
  ·replace c7 := Bool.eq_false_iff.mpr c7
   subst c7
   have H1 : (some 2) = some r := by rw [if_neg (show ¬ (false = true) by decide)] at H; exact H
   clear H
   have H := H1
   clear H1
   obtain rfl := Option.some.inj H
   go_enter Try.func64, Try.ntmps64
   go_wp2_with (first | ((with_reducible refine gQc (f := 100) rfl ?_); refine goesL_ (some 7) rfl rfl Try.func100 (by kernel_rfl) rfl #[.slice A1 l1.length c1, .func (.func 101) #[] #[]] rfl (by (try simp only [List.map_toArray, List.map_cons, List.map_nil]); first | done | rfl | (simp only [List.length_drop, List.length_take]; rfl)) ?_; (with_reducible refine (impl_Matrix_AT_impl_matricesCode_1_100.calls k _ _ l1  false _ ?side1 ?side2 A3.out).mono ?_); (case side1 => repeat (first | exact HR1.out | (with_reducible refine Kd.CqA ?_ _) | (with_reducible refine Kd.CqN ?_ _) | (with_reducible refine Kd.CqD ?_))); (case side2 => exact HC1.out); rintro e w9 ⟨rfl, hb⟩; refine ⟨_, rfl, ?_⟩; have n0_ := Aq.mk (bQT (by repeat (first | (with_reducible first | exact HB.out | apply bQA | apply bQN | apply bQ1) | exact HB.out)) hb); clear HB; have HB := n0_; clear n0_; (try clear hb); (try clear hb2); (try clear hk); (try clear hi)) | (go_at_fn 65; (with_reducible refine (impl_InverseMatrix_1.calls (g0_0 : Addr) a0_0 A0_1 c0_1 l0_1 (g0_1 : Addr) a0_2 false _ ?side1 ?side2 ?side3 ?side4 A6.out).mono ?_); (case side1 => repeat (first | exact (Kd.C_below HR0_1.out HB.out) | (with_reducible refine Kd.CqA ?_ _) | (with_reducible refine Kd.CqN ?_ _) | (with_reducible refine Kd.CqD ?_))); (case side2 => exact HC0_1.out); (case side3 => repeat (first | exact (AtC.below BK40.out HB.out) | (with_reducible refine AtC.alloc ?_ _) | (with_reducible refine AtC.drewN ?_ _) | (with_reducible refine AtC.drew ?_))); (case side4 => repeat (first | exact (AtC.below BK41.out HB.out) | (with_reducible refine AtC.alloc ?_ _) | (with_reducible refine AtC.drewN ?_ _) | (with_reducible refine AtC.drew ?_))); rintro e w' ⟨rfl, ⟨nd, rfl⟩⟩))
   go_ret
   exact ⟨by first | rfl | (simp [errW_none, errW_some] <;> rfl) | (simp [*, errW_none, errW_some] <;> rfl), by repeat (first | (with_reducible first | exact HB.out | apply bQA | apply bQN | apply bQ1) | exact HB.out)⟩
end Go.Proofs.Ytbaicdgkpnbipaa.P
