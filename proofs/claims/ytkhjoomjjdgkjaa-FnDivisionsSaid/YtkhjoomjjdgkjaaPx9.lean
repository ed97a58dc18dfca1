/- Functions of the program and what they tell, as the printing program wrote it. -/
import Derived.Test.YtkhjoomjjdgkjaaPx0
import Derived.Test.YtkhjoomjjdgkjaaPx4
import Derived.Test.YtkhjoomjjdgkjaaPx5
import Derived.Test.YtkhjoomjjdgkjaaPx6
import Derived.Test.YtkhjoomjjdgkjaaPx7
import Derived.Test.YtkhjoomjjdgkjaaPx8
namespace Go.Proofs.Ytkhjoomjjdgkjaa.P
open Go.Shelf Go.RowKit Go.Proofs.YtkhjoomjjdgkjaaW.PrintWords Go.Proofs.YtkhjoomjjdgkjaaW.PrintLast Go.Proofs.YtkhjoomjjdgkjaaW.PrintMore
attribute [local go_sem] max2_int min2_int max_two min_two max_three min_three max_four min_four
set_option linter.unusedVariables false
set_option linter.unusedSimpArgs false
set_option maxHeartbeats 8000000
set_option maxRecDepth 100000
def impl_Field_divide.l0 : Nat → List Int → Bool → List Int → List Int → Int → Int → Int → Option (List Int × List Int)
  | 0, _, _, _, _, _, _, _ => none
  | k + 1, x2, x3, x10, x11, x12, x298000, x298001 => if (x11.length : Int) ≥ (x2.length : Int) then (if 0 ≤ (wrap64 ((wrap64 ((x11.length : Int) - (x2.length : Int))) + 1)) then (if (wrap64 ((wrap64 ((x11.length : Int) - (x2.length : Int))) + 1) : Int).toNat ≤ 35184372088832 then ((some (List.replicate (wrap64 ((wrap64 ((x11.length : Int) - (x2.length : Int))) + 1) : Int).toNat 0 : List Int)).bind fun y304 => (if 0 ≤ (wrap64 ((x11.length : Int) - 1)) then (if (wrap64 ((x11.length : Int) - 1)) < (x11.length : Int) then (if x3 = true then (if 0 ≤ x12 then (if x12 < (x2.length : Int) then ((impl_Field_square.f k x298000 x298001 (rd x2 x12) (wrap64 ((x11.length : Int) - (x2.length : Int)))).bind fun t309 => ((impl_Field_inverse.f k x298000 x298001 t309).bind fun t310 => ((impl_Field_mul.f k x298000 x298001 (rd x11 (wrap64 ((x11.length : Int) - 1))) t310).bind fun t311 => (if 0 ≤ (wrap64 ((x11.length : Int) - (x2.length : Int))) then (if (wrap64 ((x11.length : Int) - (x2.length : Int))) < (y304.length : Int) then ((some (y304.set ((wrap64 ((x11.length : Int) - (x2.length : Int))) : Int).toNat t311 : List Int)).bind fun y312 => ((impl_Field_compose.f k x298000 x298001 y312 x2).bind fun t313 => ((impl_plus.f k x11 t313).bind fun t316 => ((impl_plus.f k x10 y312).bind fun t319 => (impl_Field_divide.l0 k x2 x3 t319 t316 x12 x298000 x298001))))) else (none)) else (none))))) else (none)) else (none)) else (if 0 ≤ x12 then (if x12 < (x2.length : Int) then ((impl_Field_inverse.f k x298000 x298001 (rd x2 x12)).bind fun t323 => ((impl_Field_mul.f k x298000 x298001 (rd x11 (wrap64 ((x11.length : Int) - 1))) t323).bind fun t324 => ((impl_Field_root.f k x298000 x298001 t324 x12).bind fun t325 => (if 0 ≤ (wrap64 ((x11.length : Int) - (x2.length : Int))) then (if (wrap64 ((x11.length : Int) - (x2.length : Int))) < (y304.length : Int) then ((some (y304.set ((wrap64 ((x11.length : Int) - (x2.length : Int))) : Int).toNat t325 : List Int)).bind fun y326 => ((impl_Field_compose.f k x298000 x298001 x2 y326).bind fun t327 => ((impl_plus.f k x11 t327).bind fun t330 => ((impl_plus.f k x10 y326).bind fun t333 => (impl_Field_divide.l0 k x2 x3 t333 t330 x12 x298000 x298001))))) else (none)) else (none))))) else (none)) else (none))) else (none)) else (none))) else (none)) else (none)) else (some (x10, x11))
def impl_Field_divide.f (k : Nat) (a0_0 : Int) (a0_1 : Int) (l1 : List Int) (l2 : List Int) (a3 : Bool) : Option (List Int × List Int) := (slices_Clone_int64_int64.f l1).bind fun t301 => (impl_Field_divide.l0 k l2 a3 (([] : List Int)) t301 (wrap64 ((l2.length : Int) - 1)) a0_0 a0_1)
theorem impl_Field_divide.mono_l : ∀ k, (∀ y0 y1 y2 y3 y4 y5 y6, LeO (impl_Field_divide.l0 k y0 y1 y2 y3 y4 y5 y6) (impl_Field_divide.l0 (k + 1) y0 y1 y2 y3 y4 y5 y6))
 | 0 => fun _ _ _ _ _ _ _ r h => by simp [impl_Field_divide.l0] at h
 | k + 1 => by
  have ih0 := impl_Field_divide.mono_l k
  ·intro y0 y1 y2 y3 y4 y5 y6
   unfold impl_Field_divide.l0
   repeat' first
   | (with_reducible first | apply ih0 | apply impl_Field_compose.mono | apply impl_Field_inverse.mono | apply impl_Field_mul.mono | apply impl_Field_root.mono | apply impl_Field_square.mono | apply impl_plus.mono | exact LeO.refl _ | exact LeO.none _ | refine LeO.ite ?_ ?_ | refine LeO.bind ?_ (fun _ => ?_))
   | exact LeO.none _
   | refine LeO.ite ?_ ?_
   | refine LeO.bind ?_ (fun _ => ?_)
theorem impl_Field_divide.mono : ∀ a0 a1 a2 a3 a4 k, LeO (impl_Field_divide.f k a0 a1 a2 a3 a4) (impl_Field_divide.f (k + 1) a0 a1 a2 a3 a4) := by
 intro a0 a1 a2 a3 a4 k
 have ih0 := impl_Field_divide.mono_l k
 unfold impl_Field_divide.f
 repeat' first
  | (with_reducible first | apply ih0 | apply impl_Field_compose.mono | apply impl_Field_inverse.mono | apply impl_Field_mul.mono | apply impl_Field_root.mono | apply impl_Field_square.mono | apply impl_plus.mono | exact LeO.refl _ | exact LeO.none _ | refine LeO.ite ?_ ?_ | refine LeO.bind ?_ (fun _ => ?_))
  | exact LeO.none _
  | refine LeO.ite ?_ ?_
  | refine LeO.bind ?_ (fun _ => ?_)
def impl_Field_divide.T4 : Bool × List (List Nat × List Nat) := (true, [([], []), ([0], [0]), ([1, 1], [1]), ([], []), ([], []), ([4], [4]), ([5], [5]), ([3, 6], [3, 6]), ([7], [7]), ([2, 0, 1, 2], [2]), ([8, 9, 0, 1, 2, 3, 4, 5, 6, 7, 8, 9], [8])])
def impl_Field_divide.B4 : List Nat := [0, 1, 3, 0, 0, 16, 48, 120, 248, 7, 1023]
theorem impl_Field_divide.tab4 : rtab .any (opsOf Try.f67 4) = impl_Field_divide.T4 := by kernel_rfl
theorem impl_Field_divide.bits4 : waitsOk impl_Field_divide.T4.2 impl_Field_divide.B4 = true := by kernel_rfl
def impl_Field_divide.T6 : Bool × List (List Nat × List Nat) := (true, [([], []), ([], []), ([], []), ([], []), ([], []), ([], []), ([], []), ([], []), ([6, 7], [6, 7]), ([8], [8]), ([], []), ([5, 9, 10], [5, 9, 10]), ([4, 11, 11], [4, 11]), ([2, 3, 12, 12], [2, 3, 12]), ([0, 1, 0, 1, 2, 3, 4, 5, 6, 7, 8, 9, 10, 11, 12, 13], [0, 1]), ([14, 13, 13, 0, 1, 2, 3, 4, 5, 6, 7, 8, 9, 10, 11, 12, 13], [13, 14])])
def impl_Field_divide.B6 : List Nat := [0, 0, 0, 0, 0, 0, 0, 0, 192, 448, 0, 2016, 4080, 8188, 16383, 32767]
theorem impl_Field_divide.tab6 : rtab .any (opsOf Try.f67 6) = impl_Field_divide.T6 := by kernel_rfl
theorem impl_Field_divide.bits6 : waitsOk impl_Field_divide.T6.2 impl_Field_divide.B6 = true := by kernel_rfl
def impl_Field_divide.T8 : Bool × List (List Nat × List Nat) := (true, [([], []), ([], []), ([], []), ([], []), ([], []), ([], []), ([], []), ([], []), ([6, 7], [6, 7]), ([8], [8]), ([5, 9], [5, 9]), ([3, 4, 10, 10], [3, 4, 10]), ([], []), ([2, 11, 12, 11], [2, 11, 12]), ([0, 1, 0, 1, 2, 3, 4, 5, 6, 7, 8, 9, 10, 11, 12, 13], [0, 1]), ([14, 13, 13, 0, 1, 2, 3, 4, 5, 6, 7, 8, 9, 10, 11, 12, 13], [13, 14])])
def impl_Field_divide.B8 : List Nat := [0, 0, 0, 0, 0, 0, 0, 0, 192, 448, 992, 2040, 0, 8188, 16383, 32767]
theorem impl_Field_divide.tab8 : rtab .any (opsOf Try.f67 8) = impl_Field_divide.T8 := by kernel_rfl
theorem impl_Field_divide.bits8 : waitsOk impl_Field_divide.T8.2 impl_Field_divide.B8 = true := by kernel_rfl
theorem impl_Field_divide.calls (k : Nat) (a0_0 : Int) (a0_1 : Int) (A1 : Option Addr) (c1 : Nat) (l1 : List Int) (A2 : Option Addr) (c2 : Nat) (l2 : List Int) (a3 : Bool) (r1 : List Int) (r2 : List Int) (w : World) (hr1 : Kd.C (Kd.int .i64) w A1 l1.length l1) (hc1 : l1.length ≤ c1) (hr2 : Kd.C (Kd.int .i64) w A2 l2.length l2) (hc2 : l2.length ≤ c2) (h : impl_Field_divide.f k a0_0 a0_1 l1 l2 a3 = some (r1, r2)) :
 Calls Try.prog 67 #[.agg #[.int .i64 a0_0, .int .i64 a0_1], .slice A1 l1.length c1, .slice A2 l2.length c2, .bool a3] w fun e w' => ∃ v0_ v1_ : Value, e = .returned (.tuple #[v0_, v1_]) ∧ Kd.R (Kd.int .i64) 2 w' w.heap.size (fun k_ => some k_ ≠ (v1_ : Value).ownBlock) v0_ r1 ∧ Kd.R (Kd.int .i64) 2 w' w.heap.size (fun k_ => some k_ ≠ (v0_ : Value).ownBlock) v1_ r2 ∧ Below w.heap.size w w' := by
 have hu27 := Try.underlying27
 have HR1 := Aq.mk hr1
 have HC1 := Aq.mk hc1
 clear hr1 hc1
 have HR2 := Aq.mk hr2
 have HC2 := Aq.mk hc2
 clear hr2 hc2
 have HB := Aq.mk (Below.refl w.heap.size w)
 have H : ((slices_Clone_int64_int64.f l1).bind fun t301 => (impl_Field_divide.l0 k l2 a3 (([] : List Int)) t301 (wrap64 ((l2.length : Int) - 1)) a0_0 a0_1)) = some (r1, r2) := h
 clear h
 obtain ⟨y298, hy298⟩ : ∃ y_ : List Int, y_ = (([] : List Int)) := ⟨_, rfl⟩
 replace H : ((slices_Clone_int64_int64.f l1).bind fun t301 => (impl_Field_divide.l0 k l2 a3 y298 t301 (wrap64 ((l2.length : Int) - 1)) a0_0 a0_1)) = some (r1, r2) := by first | (rw [hy298]; with_reducible exact H) | (have H2_ := (Option.bind_some _ _).symm.trans H; rw [hy298]; with_reducible exact H2_) | (have H2_ := (Option.bind_some _ _).symm.trans H; with_reducible exact H2_) | with_reducible exact H | (rw [hy298]; exact H) | exact H
 have Ny298 := Aq.mk hy298
 clear hy298
 obtain ⟨t301, A5, H⟩ := qBd H
 replace H' := Aq.mk H
 clear H
 go_enter Try.func67, Try.ntmps67
 go_wp2_with (first | ((with_reducible refine gQd (N := 4) rfl ?_); refine xQe ?hg (N := 4) ?hd (cs := #[.int .i64 a0_0, .int .i64 a0_1]) (t := 27) ?hr ?_; (case hd => rfl); (case hg => rfl); (case hr => exact tH); intro gb297 hg w6 hbox hb; refine qM4 (bQT tB hb) hbox (tZ w hg) (tZ w hg) ?_; clear HB; intro HB BK297 GW297 GE297; clear hb hbox hg) | ((with_reducible refine gQd (N := 16) rfl ?_); refine Kd.R_lit (Kd.int .i64) _ 2 ?hg (N := 16) ?hd (xs := ([] : List Int)) (inner := []) (ok := fun _ => True) (okp := fun _ => True) ?hr ?hp (fun _ hk => hk) trivial (Below.refl _ _) (Nat.le_refl _) (by simp) ?_; (case hd => rfl); (case hg => rfl); (case hr => exact tH); (case hp => exact (Reps.none _ _)); intro v299 w7 ho8 hb hg_ hnew_; clear hg_ hnew_; (first | rw [← Ny298.out] at ho8 | (simp only [Int.reduceToNat] at ho8; rw [← Ny298.out] at ho8)); refine qM3 (Kd.R_lower ho8 (bQZ tB)) (tQ BK297.out hb) (bQT tB hb) ?_; clear BK297 HB; intro HO300 BK297 HB; clear hb ho8) | ((with_reducible refine gQc (f := 91) rfl ?_); refine goesL_ (some 18) rfl rfl Try.func91 (by kernel_rfl) rfl #[.slice A1 l1.length c1] rfl tL ?_; (with_reducible refine (slices_Clone_int64_int64.calls _ _ l1 t301 _ ?s1 ?s2 A5.out).mono ?_); (case s1 => exact tC ((Kd.C_below HR1.out HB.out))); (case s2 => exact HC1.out); rintro e w9 ⟨v302, rfl, ho0, hb⟩; refine ⟨_, rfl, ?_⟩; refine qM4 (Kd.R_elder' (tR HO300.out) (Kd.R_base ho0) hb) (Kd.R_lower (Kd.R_new' ho0 (Kd.R_lt (tR HO300.out))) (bQZ tB)) (tQ BK297.out hb) (bQT tB hb) ?_; clear HO300 BK297 HB; intro HO300 HO303 BK297 HB; (try clear hb); (try clear hb2); (try clear hk); (try clear hi); (try clear ho0)))
 go_loopg [10, 11] k (fun kq v10 v11 w' => ∃ (x10_1 : List Int) (x11_1 : List Int), Aq (impl_Field_divide.l0 kq l2 a3 x10_1 x11_1 (wrap64 ((l2.length : Int) - 1)) a0_0 a0_1 = some (r1, r2)) ∧ Aq (kq ≤ k) ∧ Aq (Kd.R (Kd.int .i64) 2 w' w.heap.size (fun k_ => some k_ ≠ (v11 : Value).ownBlock) v10 x10_1) ∧ Aq (Kd.R (Kd.int .i64) 2 w' w.heap.size (fun k_ => some k_ ≠ (v10 : Value).ownBlock) v11 x11_1) ∧ Aq (w'.heap[gb297]? = some (.cells #[.int .i64 a0_0, .int .i64 a0_1] 27 (0, 0))) ∧ Aq (Below w.heap.size w w'))
 case atStart => exact ⟨(y298), (t301), H', ⟨Nat.le_refl _⟩, ⟨by (with_reducible repeat (first | apply Kd.RqA | apply Kd.RqN | apply Kd.RqD)); exact Kd.R_mono HO300.out (fun _ hk => hk.2)⟩, ⟨by (with_reducible repeat (first | apply Kd.RqA | apply Kd.RqN | apply Kd.RqD)); exact Kd.R_mono HO303.out (fun _ hk => hk.2)⟩, ⟨tG BK297.out⟩, ⟨tB⟩⟩
 clear H'
 try clear c1
 try clear c2
 obtain ⟨x10_1, x11_1, HA, HK1, HO_10, HO_11, BK297, HB⟩ := hrel
 cases gk with
 | zero => exact absurd HA.out (by simp [impl_Field_divide.l0])
 | succ k1 =>
  have H := HA.out
  clear HA
  simp only [impl_Field_divide.l0] at H
  by_cases c10 : (x11_1.length : Int) ≥ (l2.length : Int)
  rotate_left
  ·rw [if_neg c10] at H
   have c10b0 := decide_eq_false c10
   have c10b1 : decide (l2.length ≤ x11_1.length) = false := decide_eq_false (fun h => c10 (Int.ofNat_le.mpr h))
   clear c10
   simp only [Option.some.injEq, Prod.mk.injEq] at H
   obtain ⟨rfl, rfl⟩ := H
   obtain ⟨Ao74, co74, eo74⟩ := Kd.R_slice HO_11.out
   subst eo74
   go_wp2
   go_ret2
   exact ⟨_, _, tE, tR HO_10.out, tR HO_11.out, tB⟩
  rw [if_pos c10] at H
  have c10b0 := decide_eq_true c10
  have c10b1 : decide (l2.length ≤ x11_1.length) = true := decide_eq_true (Int.ofNat_le.mp c10)
  clear c10
  obtain ⟨ji11, hji11⟩ : ∃ j_ : Int, (wrap64 ((wrap64 ((x11_1.length : Int) - (l2.length : Int))) + 1)) = j_ := ⟨_, rfl⟩
  first | rw [hji11] at H | simp only [hji11] at H | skip
  have hji11w : (IntKind.i64.wrap ((wrap64 ((x11_1.length : Int) - (l2.length : Int))) + 1)) = ji11 := (i64_w _).trans hji11
  by_cases c12 : 0 ≤ (ji11)
  rotate_left
  ·rw [if_neg c12] at H
   exact absurd H (by simp)
  rw [if_pos c12] at H
  have c12b0 := eq_true c12
  have c12b1 := decide_eq_true c12
  clear c12
  by_cases c13 : (ji11 : Int).toNat ≤ 35184372088832
  rotate_left
  ·rw [if_neg c13] at H
   exact absurd H (by simp)
  rw [if_pos c13] at H
  have c13b0 := eq_true c13
  have c13b1 := decide_eq_true c13
  clear c13
  obtain ⟨y304, hy304⟩ : ∃ y_ : List Int, y_ = (List.replicate (ji11 : Int).toNat 0) := ⟨_, rfl⟩
  replace H : (if 0 ≤ (wrap64 ((x11_1.length : Int) - 1)) then (if (wrap64 ((x11_1.length : Int) - 1)) < (x11_1.length : Int) then (if a3 = true then (if 0 ≤ (wrap64 ((l2.length : Int) - 1)) then (if (wrap64 ((l2.length : Int) - 1)) < (l2.length : Int) then ((impl_Field_square.f k1 a0_0 a0_1 (rd l2 (wrap64 ((l2.length : Int) - 1))) (wrap64 ((x11_1.length : Int) - (l2.length : Int)))).bind fun t309 => ((impl_Field_inverse.f k1 a0_0 a0_1 t309).bind fun t310 => ((impl_Field_mul.f k1 a0_0 a0_1 (rd x11_1 (wrap64 ((x11_1.length : Int) - 1))) t310).bind fun t311 => (if 0 ≤ (wrap64 ((x11_1.length : Int) - (l2.length : Int))) then (if (wrap64 ((x11_1.length : Int) - (l2.length : Int))) < (y304.length : Int) then ((some (y304.set ((wrap64 ((x11_1.length : Int) - (l2.length : Int))) : Int).toNat t311 : List Int)).bind fun y312 => ((impl_Field_compose.f k1 a0_0 a0_1 y312 l2).bind fun t313 => ((impl_plus.f k1 x11_1 t313).bind fun t316 => ((impl_plus.f k1 x10_1 y312).bind fun t319 => (impl_Field_divide.l0 k1 l2 a3 t319 t316 (wrap64 ((l2.length : Int) - 1)) a0_0 a0_1))))) else (none)) else (none))))) else (none)) else (none)) else (if 0 ≤ (wrap64 ((l2.length : Int) - 1)) then (if (wrap64 ((l2.length : Int) - 1)) < (l2.length : Int) then ((impl_Field_inverse.f k1 a0_0 a0_1 (rd l2 (wrap64 ((l2.length : Int) - 1)))).bind fun t323 => ((impl_Field_mul.f k1 a0_0 a0_1 (rd x11_1 (wrap64 ((x11_1.length : Int) - 1))) t323).bind fun t324 => ((impl_Field_root.f k1 a0_0 a0_1 t324 (wrap64 ((l2.length : Int) - 1))).bind fun t325 => (if 0 ≤ (wrap64 ((x11_1.length : Int) - (l2.length : Int))) then (if (wrap64 ((x11_1.length : Int) - (l2.length : Int))) < (y304.length : Int) then ((some (y304.set ((wrap64 ((x11_1.length : Int) - (l2.length : Int))) : Int).toNat t325 : List Int)).bind fun y326 => ((impl_Field_compose.f k1 a0_0 a0_1 l2 y326).bind fun t327 => ((impl_plus.f k1 x11_1 t327).bind fun t330 => ((impl_plus.f k1 x10_1 y326).bind fun t333 => (impl_Field_divide.l0 k1 l2 a3 t333 t330 (wrap64 ((l2.length : Int) - 1)) a0_0 a0_1))))) else (none)) else (none))))) else (none)) else (none))) else (none)) else (none)) = some (r1, r2) := by first | (rw [hy304]; with_reducible exact H) | (have H2_ := (Option.bind_some _ _).symm.trans H; rw [hy304]; with_reducible exact H2_) | (have H2_ := (Option.bind_some _ _).symm.trans H; with_reducible exact H2_) | with_reducible exact H | (rw [hy304]; exact H) | exact H
  have Ny304 := Aq.mk hy304
  clear hy304
  obtain ⟨ji14, hji14⟩ : ∃ j_ : Int, (wrap64 ((x11_1.length : Int) - 1)) = j_ := ⟨_, rfl⟩
  first | rw [hji14] at H | simp only [hji14] at H | skip
  have hji14w : (IntKind.i64.wrap ((x11_1.length : Int) - 1)) = ji14 := (i64_w _).trans hji14
  by_cases c15 : 0 ≤ (ji14)
  rotate_left
  ·rw [if_neg c15] at H
   exact absurd H (by simp)
  rw [if_pos c15] at H
  have c15b0 := decide_eq_true c15
  clear c15
  by_cases c16 : (ji14) < (x11_1.length : Int)
  rotate_left
  ·rw [if_neg c16] at H
   exact absurd H (by simp)
  rw [if_pos c16] at H
  have c16b0 := decide_eq_true c16
  clear c16
  by_cases c17 : a3 = true
  ·subst c17
   rw [if_pos rfl] at H
   obtain ⟨ji18, hji18⟩ : ∃ j_ : Int, (wrap64 ((l2.length : Int) - 1)) = j_ := ⟨_, rfl⟩
   first | rw [hji18] at H | simp only [hji18] at H | skip
   have hji18w : (IntKind.i64.wrap ((l2.length : Int) - 1)) = ji18 := (i64_w _).trans hji18
   by_cases c19 : 0 ≤ (ji18)
   rotate_left
   ·rw [if_neg c19] at H
    exact absurd H (by simp)
   rw [if_pos c19] at H
   have c19b0 := decide_eq_true c19
   clear c19
   by_cases c20 : (ji18) < (l2.length : Int)
   rotate_left
   ·rw [if_neg c20] at H
    exact absurd H (by simp)
   rw [if_pos c20] at H
   have c20b0 := decide_eq_true c20
   clear c20
   obtain ⟨t309, A21, H⟩ := qBd H
   obtain ⟨t310, A22, H⟩ := qBd H
   obtain ⟨t311, A23, H⟩ := qBd H
   obtain ⟨ji24, hji24⟩ : ∃ j_ : Int, (wrap64 ((x11_1.length : Int) - (l2.length : Int))) = j_ := ⟨_, rfl⟩
   (try (have hji24v11 : (wrap64 (ji24 + 1)) = ji11 := by rw [← hji24]; exact hji11))
   first | rw [hji24] at H | simp only [hji24] at H | skip
   (try rw [hji24] at A21)
   (try rw [hji24] at A22)
   (try rw [hji24] at A23)
   have hji24w : (IntKind.i64.wrap ((x11_1.length : Int) - (l2.length : Int))) = ji24 := (i64_w _).trans hji24
   by_cases c25 : 0 ≤ (ji24)
   rotate_left
   ·rw [if_neg c25] at H
    exact absurd H (by simp)
   rw [if_pos c25] at H
   have c25b0 := decide_eq_true c25
   clear c25
   by_cases c26 : (ji24) < (y304.length : Int)
   rotate_left
   ·rw [if_neg c26] at H
    exact absurd H (by simp)
   rw [if_pos c26] at H
   have c26b0 := decide_eq_true c26
   clear c26
   obtain ⟨y312, hy312⟩ : ∃ y_ : List Int, y_ = (y304.set ((ji24) : Int).toNat t311) := ⟨_, rfl⟩
   replace H : ((impl_Field_compose.f k1 a0_0 a0_1 y312 l2).bind fun t313 => ((impl_plus.f k1 x11_1 t313).bind fun t316 => ((impl_plus.f k1 x10_1 y312).bind fun t319 => (impl_Field_divide.l0 k1 l2 true t319 t316 (ji18) a0_0 a0_1)))) = some (r1, r2) := by first | (rw [hy312]; with_reducible exact H) | (have H2_ := (Option.bind_some _ _).symm.trans H; rw [hy312]; with_reducible exact H2_) | (have H2_ := (Option.bind_some _ _).symm.trans H; with_reducible exact H2_) | with_reducible exact H | (rw [hy312]; exact H) | exact H
   have Ny312 := Aq.mk hy312
   clear hy312
   obtain ⟨t313, A28, H⟩ := qBd H
   obtain ⟨t316, A29, H⟩ := qBd H
   obtain ⟨t319, A30, H⟩ := qBd H
   replace H' := Aq.mk H
   clear H
   obtain ⟨Ao31, co31, eo31⟩ := Kd.R_slice HO_11.out
   subst eo31
   try go_wp2
   have n0_ := Aq.mk (Kd.RqD HO_10.out)
   have n1_ := Aq.mk (Kd.RqD HO_11.out)
   have n2_ := Aq.mk (kQD BK297.out)
   have n3_ := Aq.mk (bQ1 HB.out)
   clear HO_10
   clear HO_11
   clear BK297
   clear HB
   have HO_10 := n0_
   have HO_11 := n1_
   have BK297 := n2_
   have HB := n3_
   clear n0_ n1_ n2_ n3_
   have p307 : 0 ≤ ((ji14) : Int) := of_decide_eq_true tA
   have q307 : (ji14) < (x11_1.length : Int) := of_decide_eq_true tA
   obtain ⟨ad307, e307, hx307_0⟩ := Kd.at_int (Kd.R_reads' HO_11.out).2.2 (ji14) p307 q307
   cases e307
   replace p307 := eq_true p307
   replace q307 := eq_true q307
   refine start_ (n := 11) (S := fun w' => w'.cell? (ad307.add ((ji14)).toNat) = some (.int .i64 (rd x11_1 (ji14)))) (ds := []) #[false, false, false, false, false, false, false, false, false, false, false] (by kernel_rfl) rfl rfl (hx307_0) (fun hHeld => ?_); refine with_tabW impl_Field_divide.tab4 impl_Field_divide.bits4 (fun HT_ HW_ => ?_)
   generalize wr.drew = w32 at HO_10 HO_11 BK297 HB hx307_0 hHeld ⊢
   refine tP0 0 32 (bm 11 1) ?_
   refine tP0 1 33 (bm 11 3) ?_
   refine tP0 3 35 (bm 11 11) ?_
   refine tP0 4 36 (bm 11 27) ?_
   refine tP0 5 37 (bm 11 59) ?_
   refine tP0 6 38 (bm 11 123) ?_
   refine tP0 7 39 (bm 11 251) ?_
   refine take_ (i := 8) (N := some 40) (v := ?_) (a' := ?_) #[true, true, false, true, true, true, true, true, true, false, false] rfl rfl (take_ofW HT_.out HW_.out (by kernel_rfl)) (fun _ _ _ h => h) (Or.inl ⟨by rfl, ?_⟩) hHeld ?_ ?_
   rotate_left
   ·intro w' s0
    go_simp
    with_reducible rfl
   rotate_left
   ·simp only [Act.put, qSa, qSb, qSc, i64_w, i32_w]
    rfl
   refine one_ (i := 2) (N := some 34) (bm 11 511) rfl rfl (one_of HT_.out (by kernel_rfl)) (by decide) (fun K hK => ?_)
   refine Kd.R_make_step (Kd.int .i64) _ 2 (by rfl) (N := 34) rfl 24 _ _ rfl ji11 (by first | rfl | exact congrArg _ hji24v11) (by first | rfl | exact congrArg _ hji24v11) Try.underlying24 (.int .i64 0) 8 info2 rfl (by decide) (by omega) 0 (ok := fun _ => True) (okp := fun _ => True) rfl (fun _ hk => hk) trivial (of_decide_eq_true tA) (Nat.le_trans (Nat.mul_le_mul_right _ (of_decide_eq_true tA : ji11.toNat ≤ 35184372088832)) (by omega)) (Below.refl _ _) (Nat.le_refl _) ?_
   intro v305 w33 ho34 hb hg_ hnew_
   have HS0_ := (hb.cell (World.block_lt_of_cell? _ _ (hHeld))).trans (hHeld)
   clear hg_ hnew_
   (first | rw [← Ny304.out] at ho34 | (simp only [Int.reduceToNat] at ho34; rw [← Ny304.out] at ho34))
   have n0_ := Aq.mk (Kd.R_elder' (tR HO_10.out) (Kd.R_base ho34) hb)
   have n1_ := Aq.mk (Kd.R_elder' (tR HO_11.out) (Kd.R_base ho34) hb)
   have n2_ := Aq.mk (Kd.R_lower (Kd.R_new' (Kd.R_new' ho34 (Kd.R_lt (tR HO_10.out))) (Kd.R_lt (tR HO_11.out))) (bQZ tB))
   have n3_ := Aq.mk (tQ BK297.out hb)
   have n4_ := Aq.mk (bQT tB hb)
   clear HO_10
   clear HO_11
   clear BK297
   clear HB
   have HO_10 := n0_
   have HO_11 := n1_
   have HO306 := n2_
   have BK297 := n3_
   have HB := n4_
   clear n0_ n1_ n2_ n3_ n4_
   clear hb ho34
   refine hK.out _ _ (HS0_) (fun hHeld => ?_)
   clear hK K
   refine tN 34 ?_
   refine tP0 9 14 (bm 11 1023) ?_
   refine tP0 10 15 (bm 11 2047) ?_
   refine done_ (done_of HT_.out (by kernel_rfl)) ?_
   try go_wp2
   have n0_ := Aq.mk (Kd.RqD HO_10.out)
   have n1_ := Aq.mk (Kd.RqD HO_11.out)
   have n2_ := Aq.mk (Kd.RqD HO306.out)
   have n3_ := Aq.mk (kQD BK297.out)
   have n4_ := Aq.mk (bQ1 HB.out)
   clear HO_10
   clear HO_11
   clear HO306
   clear BK297
   clear HB
   have HO_10 := n0_
   have HO_11 := n1_
   have HO306 := n2_
   have BK297 := n3_
   have HB := n4_
   clear n0_ n1_ n2_ n3_ n4_
   have p308 : 0 ≤ ((ji18) : Int) := of_decide_eq_true tA
   have q308 : (ji18) < (l2.length : Int) := of_decide_eq_true tA
   obtain ⟨ad308, e308, hx308_0⟩ := Kd.at_int HR2.out (ji18) p308 q308
   have hw308_0 := hx308_0
   cases e308
   replace hx308_0 := (HB.out.cell (World.block_lt_of_cell? w _ hx308_0)).trans hx308_0
   replace p308 := eq_true p308
   replace q308 := eq_true q308
   refine start_ (n := 16) (S := fun w' => w'.cell? ⟨gb297, 0, none⟩ = some (.int .i64 a0_0) ∧ w'.cell? ⟨gb297, 1, none⟩ = some (.int .i64 a0_1) ∧ w'.cell? (ad308.add ((ji18)).toNat) = some (.int .i64 (rd l2 (ji18)))) (ds := [15]) #[false, false, false, false, false, false, false, false, false, false, false, false, false, false, false, false] (by kernel_rfl) rfl rfl ⟨(kQC BK297.out 0).trans rfl, (kQC BK297.out 1).trans rfl, (tcw tB hw308_0)⟩ (fun hHeld => ?_); refine with_tabW impl_Field_divide.tab6 impl_Field_divide.bits6 (fun HT_ HW_ => ?_)
   generalize w33.drew = w35 at HO_10 HO_11 HO306 BK297 HB hx308_0 hHeld ⊢
   refine tP0 0 42 (bm 16 1) ?_
   refine tP0 1 43 (bm 16 3) ?_
   refine tP0 3 45 (bm 16 11) ?_
   refine tP0 6 48 (bm 16 75) ?_
   refine tP0 7 49 (bm 16 203) ?_
   refine tP0 8 50 (bm 16 459) ?_
   refine tP0 10 52 (bm 16 1483) ?_
   refine tT3 2 44 (bm 16 1487) ?_
   refine tT3 4 46 (bm 16 1503) ?_
   refine tT3 5 47 (bm 16 1535) ?_
   refine tT3 9 51 (bm 16 2047) ?_
   refine one_ (i := 11) (N := some 53) (bm 16 4095) rfl rfl (one_of HT_.out (by kernel_rfl)) (by decide) (fun K hK => ?_)
   refine goes_ Try.func81 (by kernel_rfl) rfl #[.agg #[.int .i64 a0_0, .int .i64 a0_1], .int .i64 (rd l2 (ji18)), .int .i64 ji24] (by rfl) rfl rfl (by (try simp only [List.map_toArray, List.map_cons, List.map_nil]); first | done | (simp only [hji18, hji24]; rfl) | rfl | (simp only [List.length_drop, List.length_take]; rfl)) ?_
   with_reducible refine (impl_Field_square.calls k1 a0_0 a0_1 (rd l2 (ji18)) ji24 t309 _ A21.out).mono ?_
   rintro e w36 ⟨rfl, hb⟩
   refine ⟨_, rfl, ?_⟩
   have n0_ := Aq.mk (Kd.R_below (tR HO_10.out) hb)
   have n1_ := Aq.mk (Kd.R_below (tR HO_11.out) hb)
   have n2_ := Aq.mk (Kd.R_below (tR HO306.out) hb)
   have n3_ := Aq.mk (tQ BK297.out hb)
   have n4_ := Aq.mk (bQT tB hb)
   clear HO_10
   clear HO_11
   clear HO306
   clear BK297
   clear HB
   have HO_10 := n0_
   have HO_11 := n1_
   have HO306 := n2_
   have BK297 := n3_
   have HB := n4_
   clear n0_ n1_ n2_ n3_ n4_
   (try clear hb)
   (try clear hb2)
   (try clear hk)
   (try clear hi)
   refine hK.out _ _ ⟨(kQC BK297.out 0).trans rfl, (kQC BK297.out 1).trans rfl, (tcw tB hw308_0)⟩ (fun hHeld => ?_)
   clear hK K
   refine tN 53 ?_
   refine one_ (i := 12) (N := some 54) (bm 16 8191) rfl rfl (one_of HT_.out (by kernel_rfl)) (by decide) (fun K hK => ?_)
   refine goes_ Try.func84 (by kernel_rfl) rfl #[.agg #[.int .i64 a0_0, .int .i64 a0_1], .int .i64 t309] (by rfl) rfl rfl tL ?_
   with_reducible refine (impl_Field_inverse.calls k1 a0_0 a0_1 t309 t310 _ A22.out).mono ?_
   rintro e w37 ⟨rfl, hb⟩
   refine ⟨_, rfl, ?_⟩
   have n0_ := Aq.mk (Kd.R_below (tR HO_10.out) hb)
   have n1_ := Aq.mk (Kd.R_below (tR HO_11.out) hb)
   have n2_ := Aq.mk (Kd.R_below (tR HO306.out) hb)
   have n3_ := Aq.mk (tQ BK297.out hb)
   have n4_ := Aq.mk (bQT tB hb)
   clear HO_10
   clear HO_11
   clear HO306
   clear BK297
   clear HB
   have HO_10 := n0_
   have HO_11 := n1_
   have HO306 := n2_
   have BK297 := n3_
   have HB := n4_
   clear n0_ n1_ n2_ n3_ n4_
   (try clear hb)
   (try clear hb2)
   (try clear hk)
   (try clear hi)
   refine hK.out _ _ ⟨(kQC BK297.out 0).trans rfl, (kQC BK297.out 1).trans rfl, (tcw tB hw308_0)⟩ (fun hHeld => ?_)
   clear hK K
   refine tN 54 ?_
   refine one_ (i := 13) (N := some 55) (bm 16 16383) rfl rfl (one_of HT_.out (by kernel_rfl)) (by decide) (fun K hK => ?_)
   refine goes_ Try.func80 (by kernel_rfl) rfl #[.agg #[.int .i64 a0_0, .int .i64 a0_1], .int .i64 (rd x11_1 (ji14)), .int .i64 t310] (by rfl) rfl rfl (by (try simp only [List.map_toArray, List.map_cons, List.map_nil]); first | done | (simp only [hji14]; rfl) | rfl | (simp only [List.length_drop, List.length_take]; rfl)) ?_
   with_reducible refine (impl_Field_mul.calls k1 a0_0 a0_1 (rd x11_1 (ji14)) t310 t311 _ A23.out).mono ?_
   rintro e w38 ⟨rfl, hb⟩
   refine ⟨_, rfl, ?_⟩
   have n0_ := Aq.mk (Kd.R_below (tR HO_10.out) hb)
   have n1_ := Aq.mk (Kd.R_below (tR HO_11.out) hb)
   have n2_ := Aq.mk (Kd.R_below (tR HO306.out) hb)
   have n3_ := Aq.mk (tQ BK297.out hb)
   have n4_ := Aq.mk (bQT tB hb)
   clear HO_10
   clear HO_11
   clear HO306
   clear BK297
   clear HB
   have HO_10 := n0_
   have HO_11 := n1_
   have HO306 := n2_
   have BK297 := n3_
   have HB := n4_
   clear n0_ n1_ n2_ n3_ n4_
   (try clear hb)
   (try clear hb2)
   (try clear hk)
   (try clear hi)
   have p27 : 0 ≤ ((ji24) : Int) := of_decide_eq_true tA
   have q27 : ((ji24) : Int) < ((y304.length : Int) : Int) := of_decide_eq_true tA
   obtain ⟨go27, co27, eo27, gb27, gl27, cl27, HG27⟩ := Kd.R_form HO306.out (by omega)
   (first | cases eo27 | (injection eo27 with ea_ en_ ec_; (first | subst ea_ | (injection ea_ with ea_; subst ea_)); subst ec_; clear en_))
   have GB27 := Aq.mk gb27
   have GG27 := Aq.mk HG27
   clear gb27 gl27 HG27
   obtain ⟨hx27_0, hf27_0⟩ := Kd.R_celln 0 HO306.out ((ji24) : Int) p27 q27
   replace p27 := eq_true p27
   replace q27 := eq_true q27
   have HP39 := Kd.R_putn HO306.out ((ji24) : Int) t311
   rw [← Ny312.out] at HP39
   have HQ39 := Aq.mk HP39
   clear HP39
   refine hK.out _ _ ⟨(kQC BK297.out 0).trans rfl, (kQC BK297.out 1).trans rfl, (tcw tB hw308_0)⟩ (fun hHeld => ?_)
   clear hK K
   refine tN 55 ?_
   refine tP0 14 56 (bm 16 32767) ?_
   refine last_ (i := 15) (N := none) #[true, true, true, true, true, true, true, true, true, true, true, true, true, true, true, true] rfl rfl (one_of HT_.out (by kernel_rfl)) (by decide) (fun K hK => ?_)
   refine skip_ (w1 := ?_) (by rfl) rfl ?_ ?_
   rotate_left
   ·go_simp
    rfl
   refine hK.out _ _ ?_
   clear hK K
   refine done_ (done_of HT_.out (by kernel_rfl)) ?_
   have hcz40_0 : w38.cell? ⟨gb297, 0, none⟩ = some (.int .i64 a0_0) := (kQC BK297.out 0).trans rfl
   (try (have hcy40_0 : (w38.setCell ⟨go27, (ji24).toNat, none⟩ (.int .i64 t311)).cell? ⟨gb297, 0, none⟩ = some (.int .i64 a0_0) := (kQC (kQR BK297.out (by have h_ := Kd.R_ne HO306.out BK297.out (by decide); intro e_; exact h_ (by rw [e_]; rfl)) _) 0).trans rfl))
   have hcz40_1 : w38.cell? ⟨gb297, 1, none⟩ = some (.int .i64 a0_1) := (kQC BK297.out 1).trans rfl
   (try (have hcy40_1 : (w38.setCell ⟨go27, (ji24).toNat, none⟩ (.int .i64 t311)).cell? ⟨gb297, 1, none⟩ = some (.int .i64 a0_1) := (kQC (kQR BK297.out (by have h_ := Kd.R_ne HO306.out BK297.out (by decide); intro e_; exact h_ (by rw [e_]; rfl)) _) 1).trans rfl))
   have hfz40_0 := kQF BK297.out 0
   have hfz40_1 := kQF BK297.out 1
   try go_wp2_with (first | ((with_reducible refine gQc (f := 42) rfl ?_); refine goesL_ (some 61) rfl rfl Try.func42 (by kernel_rfl) rfl #[.agg #[.int .i64 a0_0, .int .i64 a0_1], .slice (some ⟨go27, 0, none⟩) y312.length co27, .slice (some ad308) l2.length c2] rfl (by (try simp only [List.map_toArray, List.map_cons, List.map_nil]); first | done | (rw [show y312.length = y304.length from (Kd.R_reads' HQ39.out).1.symm] <;> rfl) | rfl | (simp only [List.length_drop, List.length_take]; rfl)) ?_; (with_reducible refine (impl_Field_compose.calls k1 a0_0 a0_1 _ _ y312 _ _ l2 t313 _ ?s1 ?s2 ?s3 ?s4 A28.out).mono ?_); (case s1 => refine (Kd.R_reads' (e := 2) (base := w.heap.size) (ok := fun k_ => ((True ∧ some k_ ≠ (u10 : Value).ownBlock) ∧ some k_ ≠ (.slice (some ad307) x11_1.length co31 : Value).ownBlock)) (n := y304.length) (c := co27) ?_).2.2; exact (tR HQ39.out)); (case s2 => rw [show y312.length = y304.length from (Kd.R_reads' HQ39.out).1.symm]; exact (Kd.R_reads' HO306.out).2.1); (case s3 => exact Kd.C_below HR2.out (by repeat (first | (with_reducible first | exact HB.out | apply bQA | apply bQN | apply bQ1 | refine bQS ?_ GB27.out | refine bQS ?_ GE297.out) | exact HB.out))); (case s4 => exact HC2.out); rintro e w41 ⟨v314, rfl, ho0, hb⟩; refine ⟨_, rfl, ?_⟩; refine qM6 (Kd.R_elder' (by (with_reducible repeat (first | apply Kd.RqA | apply Kd.RqN | apply Kd.RqD)); exact (Kd.R_mono (Kd.R_far (p := ⟨go27, ((ji24) : Int).toNat, none⟩) (Kd.R_mono HO_10.out (fun k_ hk => (⟨hk, fun e_ => hk.2 (by rw [e_]; rfl)⟩ : _ ∧ k_ ≠ go27))) (fun _ hk => hk.2) (.int .i64 t311)) (fun _ h_ => h_.1))) (Kd.R_base ho0) hb) (Kd.R_elder' (by (with_reducible repeat (first | apply Kd.RqA | apply Kd.RqN | apply Kd.RqD)); exact (Kd.R_mono (Kd.R_far (p := ⟨go27, ((ji24) : Int).toNat, none⟩) (Kd.R_mono HO_11.out (fun k_ hk => (⟨hk, fun e_ => hk.2 (by rw [e_]; rfl)⟩ : _ ∧ k_ ≠ go27))) (fun _ hk => hk.2) (.int .i64 t311)) (fun _ h_ => h_.1))) (Kd.R_base ho0) hb) (Kd.R_elder' (tR HQ39.out) (Kd.R_base ho0) hb) (Kd.R_lower (Kd.R_new' (Kd.R_new' (Kd.R_new' ho0 (Kd.R_lt (by (with_reducible repeat (first | apply Kd.RqA | apply Kd.RqN | apply Kd.RqD)); exact (Kd.R_mono (Kd.R_far (p := ⟨go27, ((ji24) : Int).toNat, none⟩) (Kd.R_mono HO_10.out (fun k_ hk => (⟨hk, fun e_ => hk.2 (by rw [e_]; rfl)⟩ : _ ∧ k_ ≠ go27))) (fun _ hk => hk.2) (.int .i64 t311)) (fun _ h_ => h_.1))))) (Kd.R_lt (by (with_reducible repeat (first | apply Kd.RqA | apply Kd.RqN | apply Kd.RqD)); exact (Kd.R_mono (Kd.R_far (p := ⟨go27, ((ji24) : Int).toNat, none⟩) (Kd.R_mono HO_11.out (fun k_ hk => (⟨hk, fun e_ => hk.2 (by rw [e_]; rfl)⟩ : _ ∧ k_ ≠ go27))) (fun _ hk => hk.2) (.int .i64 t311)) (fun _ h_ => h_.1))))) (Kd.R_lt (tR HQ39.out))) (bQZ (by repeat (first | (with_reducible first | exact HB.out | apply bQA | apply bQN | apply bQ1 | refine bQS ?_ GB27.out | refine bQS ?_ GE297.out) | exact HB.out)))) (kQB (g := gb297) (o := .cells #[.int .i64 a0_0, .int .i64 a0_1] 27 (0, 0)) (by (with_reducible repeat (first | refine kQN ?_ _ | refine kQD ?_ | refine kQA ?_ _)); refine kQR ?_ (by have h_ := Kd.R_ne HO306.out BK297.out (by decide); intro e_; exact h_ (by rw [e_]; rfl)) _; (with_reducible repeat (first | refine kQN ?_ _ | refine kQD ?_ | refine kQA ?_ _)); exact BK297.out) hb) (bQT (by repeat (first | (with_reducible first | exact HB.out | apply bQA | apply bQN | apply bQ1 | refine bQS ?_ GB27.out | refine bQS ?_ GE297.out) | exact HB.out)) hb) ?_; clear HO_10 HO_11 HO306 BK297 HB; intro HO_10 HO_11 HO306 HO315 BK297 HB; (try clear hb); (try clear hb2); (try clear hk); (try clear hi); (try clear ho0); obtain ⟨Ao42, co42, eo42⟩ := Kd.R_slice HO315.out; subst eo42) | ((with_reducible refine gQc (f := 43) rfl ?_); refine goesL_ (some 62) rfl rfl Try.func43 (by kernel_rfl) rfl #[.slice (some ad307) x11_1.length co31, .slice Ao42 t313.length co42] rfl tL ?_; (with_reducible refine (impl_plus.calls k1 _ _ x11_1 _ _ t313 t316 _ ?s1 ?s2 ?s3 ?s4 A29.out).mono ?_); (case s1 => exact tC ((Kd.R_reads' HO_11.out).2.2)); (case s2 => exact (Kd.R_reads' HO_11.out).2.1); (case s3 => exact tC ((Kd.R_reads' HO315.out).2.2)); (case s4 => exact (Kd.R_reads' HO315.out).2.1); rintro e w43 ⟨v317, rfl, ho0, hb⟩; refine ⟨_, rfl, ?_⟩; refine qM7 (Kd.R_elder' (tR HO_10.out) (Kd.R_base ho0) hb) (Kd.R_elder' (tR HO_11.out) (Kd.R_base ho0) hb) (Kd.R_elder' (tR HO306.out) (Kd.R_base ho0) hb) (Kd.R_elder' (tR HO315.out) (Kd.R_base ho0) hb) (Kd.R_lower (Kd.R_new' (Kd.R_new' (Kd.R_new' (Kd.R_new' ho0 (Kd.R_lt (tR HO_10.out))) (Kd.R_lt (tR HO_11.out))) (Kd.R_lt (tR HO306.out))) (Kd.R_lt (tR HO315.out))) (bQZ tB)) (tQ BK297.out hb) (bQT tB hb) ?_; clear HO_10 HO_11 HO306 HO315 BK297 HB; intro HO_10 HO_11 HO306 HO315 HO318 BK297 HB; (try clear hb); (try clear hb2); (try clear hk); (try clear hi); (try clear ho0); obtain ⟨Ao44, co44, eo44⟩ := Kd.R_slice HO_10.out; subst eo44) | ((with_reducible refine gQc (f := 43) rfl ?_); refine goesL_ (some 86) rfl rfl Try.func43 (by kernel_rfl) rfl #[.slice Ao44 x10_1.length co44, .slice (some ⟨go27, 0, none⟩) y312.length co27] rfl (by (try simp only [List.map_toArray, List.map_cons, List.map_nil]); first | done | (rw [show y312.length = y304.length from (Kd.R_reads' HO306.out).1.symm] <;> rfl) | rfl | (simp only [List.length_drop, List.length_take]; rfl)) ?_; (with_reducible refine (impl_plus.calls k1 _ _ x10_1 _ _ y312 t319 _ ?s1 ?s2 ?s3 ?s4 A30.out).mono ?_); (case s1 => exact tC ((Kd.R_reads' HO_10.out).2.2)); (case s2 => exact (Kd.R_reads' HO_10.out).2.1); (case s3 => exact tC ((Kd.R_reads' HO306.out).2.2)); (case s4 => rw [show y312.length = y304.length from (Kd.R_reads' HO306.out).1.symm]; exact (Kd.R_reads' HO306.out).2.1); rintro e w45 ⟨v320, rfl, ho0, hb⟩; refine ⟨_, rfl, ?_⟩; refine qM8 (Kd.R_elder' (tR HO_10.out) (Kd.R_base ho0) hb) (Kd.R_elder' (tR HO_11.out) (Kd.R_base ho0) hb) (Kd.R_elder' (tR HO306.out) (Kd.R_base ho0) hb) (Kd.R_elder' (tR HO315.out) (Kd.R_base ho0) hb) (Kd.R_elder' (tR HO318.out) (Kd.R_base ho0) hb) (Kd.R_lower (Kd.R_new' (Kd.R_new' (Kd.R_new' (Kd.R_new' (Kd.R_new' ho0 (Kd.R_lt (tR HO_10.out))) (Kd.R_lt (tR HO_11.out))) (Kd.R_lt (tR HO306.out))) (Kd.R_lt (tR HO315.out))) (Kd.R_lt (tR HO318.out))) (bQZ tB)) (tQ BK297.out hb) (bQT tB hb) ?_; clear HO_10 HO_11 HO306 HO315 HO318 BK297 HB; intro HO_10 HO_11 HO306 HO315 HO318 HO321 BK297 HB; (try clear hb); (try clear hb2); (try clear hk); (try clear hi); (try clear ho0)))
   try subst hji18
   go_roundg k1
   case measure => have := HK1.out; omega
   case rel => exact ⟨(t319), (t316), H', ⟨by have := HK1.out; omega⟩, ⟨by (with_reducible repeat (first | apply Kd.RqA | apply Kd.RqN | apply Kd.RqD)); exact Kd.R_mono HO321.out (fun _ hk => hk.2)⟩, ⟨by (with_reducible repeat (first | apply Kd.RqA | apply Kd.RqN | apply Kd.RqD)); exact Kd.R_mono HO318.out (fun _ hk => hk.2)⟩, ⟨tG BK297.out⟩, ⟨tB⟩⟩
  replace c17 := Bool.eq_false_iff.mpr c17
  subst c17
  rw [if_neg (show ¬ (false = true) by decide)] at H
  obtain ⟨ji46, hji46⟩ : ∃ j_ : Int, (wrap64 ((l2.length : Int) - 1)) = j_ := ⟨_, rfl⟩
  first | rw [hji46] at H | simp only [hji46] at H | skip
  have hji46w : (IntKind.i64.wrap ((l2.length : Int) - 1)) = ji46 := (i64_w _).trans hji46
  by_cases c47 : 0 ≤ (ji46)
  rotate_left
  ·rw [if_neg c47] at H
   exact absurd H (by simp)
  rw [if_pos c47] at H
  have c47b0 := decide_eq_true c47
  clear c47
  by_cases c48 : (ji46) < (l2.length : Int)
  rotate_left
  ·rw [if_neg c48] at H
   exact absurd H (by simp)
  rw [if_pos c48] at H
  have c48b0 := decide_eq_true c48
  clear c48
  obtain ⟨t323, A49, H⟩ := qBd H
  obtain ⟨t324, A50, H⟩ := qBd H
  obtain ⟨t325, A51, H⟩ := qBd H
  obtain ⟨ji52, hji52⟩ : ∃ j_ : Int, (wrap64 ((x11_1.length : Int) - (l2.length : Int))) = j_ := ⟨_, rfl⟩
  (try (have hji52v11 : (wrap64 (ji52 + 1)) = ji11 := by rw [← hji52]; exact hji11))
  first | rw [hji52] at H | simp only [hji52] at H | skip
  (try rw [hji52] at A49)
  (try rw [hji52] at A50)
  (try rw [hji52] at A51)
  have hji52w : (IntKind.i64.wrap ((x11_1.length : Int) - (l2.length : Int))) = ji52 := (i64_w _).trans hji52
  by_cases c53 : 0 ≤ (ji52)
  rotate_left
  ·rw [if_neg c53] at H
   exact absurd H (by simp)
  rw [if_pos c53] at H
  have c53b0 := decide_eq_true c53
  clear c53
  by_cases c54 : (ji52) < (y304.length : Int)
  rotate_left
  ·rw [if_neg c54] at H
   exact absurd H (by simp)
  rw [if_pos c54] at H
  have c54b0 := decide_eq_true c54
  clear c54
  obtain ⟨y326, hy326⟩ : ∃ y_ : List Int, y_ = (y304.set ((ji52) : Int).toNat t325) := ⟨_, rfl⟩
  replace H : ((impl_Field_compose.f k1 a0_0 a0_1 l2 y326).bind fun t327 => ((impl_plus.f k1 x11_1 t327).bind fun t330 => ((impl_plus.f k1 x10_1 y326).bind fun t333 => (impl_Field_divide.l0 k1 l2 false t333 t330 (ji46) a0_0 a0_1)))) = some (r1, r2) := by first | (rw [hy326]; with_reducible exact H) | (have H2_ := (Option.bind_some _ _).symm.trans H; rw [hy326]; with_reducible exact H2_) | (have H2_ := (Option.bind_some _ _).symm.trans H; with_reducible exact H2_) | with_reducible exact H | (rw [hy326]; exact H) | exact H
  have Ny326 := Aq.mk hy326
  clear hy326
  obtain ⟨t327, A56, H⟩ := qBd H
  obtain ⟨t330, A57, H⟩ := qBd H
  obtain ⟨t333, A58, H⟩ := qBd H
  replace H' := Aq.mk H
  clear H
  obtain ⟨Ao59, co59, eo59⟩ := Kd.R_slice HO_11.out
  subst eo59
  try go_wp2
  have n0_ := Aq.mk (Kd.RqD HO_10.out)
  have n1_ := Aq.mk (Kd.RqD HO_11.out)
  have n2_ := Aq.mk (kQD BK297.out)
  have n3_ := Aq.mk (bQ1 HB.out)
  clear HO_10
  clear HO_11
  clear BK297
  clear HB
  have HO_10 := n0_
  have HO_11 := n1_
  have BK297 := n2_
  have HB := n3_
  clear n0_ n1_ n2_ n3_
  have p307 : 0 ≤ ((ji14) : Int) := of_decide_eq_true tA
  have q307 : (ji14) < (x11_1.length : Int) := of_decide_eq_true tA
  obtain ⟨ad307, e307, hx307_0⟩ := Kd.at_int (Kd.R_reads' HO_11.out).2.2 (ji14) p307 q307
  cases e307
  replace p307 := eq_true p307
  replace q307 := eq_true q307
  refine start_ (n := 11) (S := fun w' => w'.cell? (ad307.add ((ji14)).toNat) = some (.int .i64 (rd x11_1 (ji14)))) (ds := []) #[false, false, false, false, false, false, false, false, false, false, false] (by kernel_rfl) rfl rfl (hx307_0) (fun hHeld => ?_); refine with_tabW impl_Field_divide.tab4 impl_Field_divide.bits4 (fun HT_ HW_ => ?_)
  generalize wr.drew = w60 at HO_10 HO_11 BK297 HB hx307_0 hHeld ⊢
  refine tP0 0 32 (bm 11 1) ?_
  refine tP0 1 33 (bm 11 3) ?_
  refine tP0 3 35 (bm 11 11) ?_
  refine tP0 4 36 (bm 11 27) ?_
  refine tP0 5 37 (bm 11 59) ?_
  refine tP0 6 38 (bm 11 123) ?_
  refine tP0 7 39 (bm 11 251) ?_
  refine take_ (i := 8) (N := some 40) (v := ?_) (a' := ?_) #[true, true, false, true, true, true, true, true, true, false, false] rfl rfl (take_ofW HT_.out HW_.out (by kernel_rfl)) (fun _ _ _ h => h) (Or.inl ⟨by rfl, ?_⟩) hHeld ?_ ?_
  rotate_left
  ·intro w' s0
   go_simp
   with_reducible rfl
  rotate_left
  ·simp only [Act.put, qSa, qSb, qSc, i64_w, i32_w]
   rfl
  refine one_ (i := 2) (N := some 34) (bm 11 511) rfl rfl (one_of HT_.out (by kernel_rfl)) (by decide) (fun K hK => ?_)
  refine Kd.R_make_step (Kd.int .i64) _ 2 (by rfl) (N := 34) rfl 24 _ _ rfl ji11 (by first | rfl | exact congrArg _ hji24v11 | exact congrArg _ hji52v11) (by first | rfl | exact congrArg _ hji24v11 | exact congrArg _ hji52v11) Try.underlying24 (.int .i64 0) 8 info2 rfl (by decide) (by omega) 0 (ok := fun _ => True) (okp := fun _ => True) rfl (fun _ hk => hk) trivial (of_decide_eq_true tA) (Nat.le_trans (Nat.mul_le_mul_right _ (of_decide_eq_true tA : ji11.toNat ≤ 35184372088832)) (by omega)) (Below.refl _ _) (Nat.le_refl _) ?_
  intro v305 w61 ho62 hb hg_ hnew_
  have HS0_ := (hb.cell (World.block_lt_of_cell? _ _ (hHeld))).trans (hHeld)
  clear hg_ hnew_
  (first | rw [← Ny304.out] at ho62 | (simp only [Int.reduceToNat] at ho62; rw [← Ny304.out] at ho62))
  have n0_ := Aq.mk (Kd.R_elder' (tR HO_10.out) (Kd.R_base ho62) hb)
  have n1_ := Aq.mk (Kd.R_elder' (tR HO_11.out) (Kd.R_base ho62) hb)
  have n2_ := Aq.mk (Kd.R_lower (Kd.R_new' (Kd.R_new' ho62 (Kd.R_lt (tR HO_10.out))) (Kd.R_lt (tR HO_11.out))) (bQZ tB))
  have n3_ := Aq.mk (tQ BK297.out hb)
  have n4_ := Aq.mk (bQT tB hb)
  clear HO_10
  clear HO_11
  clear BK297
  clear HB
  have HO_10 := n0_
  have HO_11 := n1_
  have HO306 := n2_
  have BK297 := n3_
  have HB := n4_
  clear n0_ n1_ n2_ n3_ n4_
  clear hb ho62
  refine hK.out _ _ (HS0_) (fun hHeld => ?_)
  clear hK K
  refine tN 34 ?_
  refine tP0 9 14 (bm 11 1023) ?_
  refine tP0 10 15 (bm 11 2047) ?_
  refine done_ (done_of HT_.out (by kernel_rfl)) ?_
  try go_wp2
  have n0_ := Aq.mk (Kd.RqD HO_10.out)
  have n1_ := Aq.mk (Kd.RqD HO_11.out)
  have n2_ := Aq.mk (Kd.RqD HO306.out)
  have n3_ := Aq.mk (kQD BK297.out)
  have n4_ := Aq.mk (bQ1 HB.out)
  clear HO_10
  clear HO_11
  clear HO306
  clear BK297
  clear HB
  have HO_10 := n0_
  have HO_11 := n1_
  have HO306 := n2_
  have BK297 := n3_
  have HB := n4_
  clear n0_ n1_ n2_ n3_ n4_
  have p322 : 0 ≤ ((ji46) : Int) := of_decide_eq_true tA
  have q322 : (ji46) < (l2.length : Int) := of_decide_eq_true tA
  obtain ⟨ad322, e322, hx322_0⟩ := Kd.at_int HR2.out (ji46) p322 q322
  have hw322_0 := hx322_0
  cases e322
  replace hx322_0 := (HB.out.cell (World.block_lt_of_cell? w _ hx322_0)).trans hx322_0
  replace p322 := eq_true p322
  replace q322 := eq_true q322
  refine start_ (n := 16) (S := fun w' => w'.cell? ⟨gb297, 0, none⟩ = some (.int .i64 a0_0) ∧ w'.cell? ⟨gb297, 1, none⟩ = some (.int .i64 a0_1) ∧ w'.cell? (ad322.add ((ji46)).toNat) = some (.int .i64 (rd l2 (ji46)))) (ds := [15]) #[false, false, false, false, false, false, false, false, false, false, false, false, false, false, false, false] (by kernel_rfl) rfl rfl ⟨(kQC BK297.out 0).trans rfl, (kQC BK297.out 1).trans rfl, (tcw tB hw322_0)⟩ (fun hHeld => ?_); refine with_tabW impl_Field_divide.tab8 impl_Field_divide.bits8 (fun HT_ HW_ => ?_)
  generalize w61.drew = w63 at HO_10 HO_11 HO306 BK297 HB hx322_0 hHeld ⊢
  refine tP0 0 63 (bm 16 1) ?_
  refine tP0 1 64 (bm 16 3) ?_
  refine tP0 4 67 (bm 16 19) ?_
  refine tP0 6 69 (bm 16 83) ?_
  refine tP0 7 70 (bm 16 211) ?_
  refine tP0 8 71 (bm 16 467) ?_
  refine tP0 12 75 (bm 16 4563) ?_
  refine tT3 2 65 (bm 16 4567) ?_
  refine tT3 3 66 (bm 16 4575) ?_
  refine tT3 5 68 (bm 16 4607) ?_
  refine tT3 9 72 (bm 16 5119) ?_
  refine one_ (i := 10) (N := some 73) (bm 16 6143) rfl rfl (one_of HT_.out (by kernel_rfl)) (by decide) (fun K hK => ?_)
  refine goes_ Try.func84 (by kernel_rfl) rfl #[.agg #[.int .i64 a0_0, .int .i64 a0_1], .int .i64 (rd l2 (ji46))] (by rfl) rfl rfl (by (try simp only [List.map_toArray, List.map_cons, List.map_nil]); first | done | (simp only [hji46]; rfl) | rfl | (simp only [List.length_drop, List.length_take]; rfl)) ?_
  with_reducible refine (impl_Field_inverse.calls k1 a0_0 a0_1 (rd l2 (ji46)) t323 _ A49.out).mono ?_
  rintro e w64 ⟨rfl, hb⟩
  refine ⟨_, rfl, ?_⟩
  have n0_ := Aq.mk (Kd.R_below (tR HO_10.out) hb)
  have n1_ := Aq.mk (Kd.R_below (tR HO_11.out) hb)
  have n2_ := Aq.mk (Kd.R_below (tR HO306.out) hb)
  have n3_ := Aq.mk (tQ BK297.out hb)
  have n4_ := Aq.mk (bQT tB hb)
  clear HO_10
  clear HO_11
  clear HO306
  clear BK297
  clear HB
  have HO_10 := n0_
  have HO_11 := n1_
  have HO306 := n2_
  have BK297 := n3_
  have HB := n4_
  clear n0_ n1_ n2_ n3_ n4_
  (try clear hb)
  (try clear hb2)
  (try clear hk)
  (try clear hi)
  refine hK.out _ _ ⟨(kQC BK297.out 0).trans rfl, (kQC BK297.out 1).trans rfl, (tcw tB hw322_0)⟩ (fun hHeld => ?_)
  clear hK K
  refine tN 73 ?_
  refine one_ (i := 11) (N := some 74) (bm 16 8191) rfl rfl (one_of HT_.out (by kernel_rfl)) (by decide) (fun K hK => ?_)
  refine goes_ Try.func80 (by kernel_rfl) rfl #[.agg #[.int .i64 a0_0, .int .i64 a0_1], .int .i64 (rd x11_1 (ji14)), .int .i64 t323] (by rfl) rfl rfl (by (try simp only [List.map_toArray, List.map_cons, List.map_nil]); first | done | (simp only [hji14]; rfl) | rfl | (simp only [List.length_drop, List.length_take]; rfl)) ?_
  with_reducible refine (impl_Field_mul.calls k1 a0_0 a0_1 (rd x11_1 (ji14)) t323 t324 _ A50.out).mono ?_
  rintro e w65 ⟨rfl, hb⟩
  refine ⟨_, rfl, ?_⟩
  have n0_ := Aq.mk (Kd.R_below (tR HO_10.out) hb)
  have n1_ := Aq.mk (Kd.R_below (tR HO_11.out) hb)
  have n2_ := Aq.mk (Kd.R_below (tR HO306.out) hb)
  have n3_ := Aq.mk (tQ BK297.out hb)
  have n4_ := Aq.mk (bQT tB hb)
  clear HO_10
  clear HO_11
  clear HO306
  clear BK297
  clear HB
  have HO_10 := n0_
  have HO_11 := n1_
  have HO306 := n2_
  have BK297 := n3_
  have HB := n4_
  clear n0_ n1_ n2_ n3_ n4_
  (try clear hb)
  (try clear hb2)
  (try clear hk)
  (try clear hi)
  refine hK.out _ _ ⟨(kQC BK297.out 0).trans rfl, (kQC BK297.out 1).trans rfl, (tcw tB hw322_0)⟩ (fun hHeld => ?_)
  clear hK K
  refine tN 74 ?_
  refine one_ (i := 13) (N := some 76) (bm 16 16383) rfl rfl (one_of HT_.out (by kernel_rfl)) (by decide) (fun K hK => ?_)
  refine goes_ Try.func95 (by kernel_rfl) rfl #[.agg #[.int .i64 a0_0, .int .i64 a0_1], .int .i64 t324, .int .i64 (ji46)] (by rfl) rfl rfl (by (try simp only [List.map_toArray, List.map_cons, List.map_nil]); first | done | (simp only [hji46]; rfl) | rfl | (simp only [List.length_drop, List.length_take]; rfl)) ?_
  with_reducible refine (impl_Field_root.calls k1 a0_0 a0_1 t324 (ji46) t325 _ A51.out).mono ?_
  rintro e w66 ⟨rfl, hb⟩
  refine ⟨_, rfl, ?_⟩
  have n0_ := Aq.mk (Kd.R_below (tR HO_10.out) hb)
  have n1_ := Aq.mk (Kd.R_below (tR HO_11.out) hb)
  have n2_ := Aq.mk (Kd.R_below (tR HO306.out) hb)
  have n3_ := Aq.mk (tQ BK297.out hb)
  have n4_ := Aq.mk (bQT tB hb)
  clear HO_10
  clear HO_11
  clear HO306
  clear BK297
  clear HB
  have HO_10 := n0_
  have HO_11 := n1_
  have HO306 := n2_
  have BK297 := n3_
  have HB := n4_
  clear n0_ n1_ n2_ n3_ n4_
  (try clear hb)
  (try clear hb2)
  (try clear hk)
  (try clear hi)
  have p55 : 0 ≤ ((ji52) : Int) := of_decide_eq_true tA
  have q55 : ((ji52) : Int) < ((y304.length : Int) : Int) := of_decide_eq_true tA
  obtain ⟨go55, co55, eo55, gb55, gl55, cl55, HG55⟩ := Kd.R_form HO306.out (by omega)
  (first | cases eo55 | (injection eo55 with ea_ en_ ec_; (first | subst ea_ | (injection ea_ with ea_; subst ea_)); subst ec_; clear en_))
  have GB55 := Aq.mk gb55
  have GG55 := Aq.mk HG55
  clear gb55 gl55 HG55
  obtain ⟨hx55_0, hf55_0⟩ := Kd.R_celln 0 HO306.out ((ji52) : Int) p55 q55
  replace p55 := eq_true p55
  replace q55 := eq_true q55
  have HP67 := Kd.R_putn HO306.out ((ji52) : Int) t325
  rw [← Ny326.out] at HP67
  have HQ67 := Aq.mk HP67
  clear HP67
  refine hK.out _ _ ⟨(kQC BK297.out 0).trans rfl, (kQC BK297.out 1).trans rfl, (tcw tB hw322_0)⟩ (fun hHeld => ?_)
  clear hK K
  refine tN 76 ?_
  refine tP0 14 77 (bm 16 32767) ?_
  refine last_ (i := 15) (N := none) #[true, true, true, true, true, true, true, true, true, true, true, true, true, true, true, true] rfl rfl (one_of HT_.out (by kernel_rfl)) (by decide) (fun K hK => ?_)
  refine skip_ (w1 := ?_) (by rfl) rfl ?_ ?_
  rotate_left
  ·go_simp
   rfl
  refine hK.out _ _ ?_
  clear hK K
  refine done_ (done_of HT_.out (by kernel_rfl)) ?_
  have hcz68_0 : w66.cell? ⟨gb297, 0, none⟩ = some (.int .i64 a0_0) := (kQC BK297.out 0).trans rfl
  (try (have hcy68_0 : (w66.setCell ⟨go55, (ji52).toNat, none⟩ (.int .i64 t325)).cell? ⟨gb297, 0, none⟩ = some (.int .i64 a0_0) := (kQC (kQR BK297.out (by have h_ := Kd.R_ne HO306.out BK297.out (by decide); intro e_; exact h_ (by rw [e_]; rfl)) _) 0).trans rfl))
  have hcz68_1 : w66.cell? ⟨gb297, 1, none⟩ = some (.int .i64 a0_1) := (kQC BK297.out 1).trans rfl
  (try (have hcy68_1 : (w66.setCell ⟨go55, (ji52).toNat, none⟩ (.int .i64 t325)).cell? ⟨gb297, 1, none⟩ = some (.int .i64 a0_1) := (kQC (kQR BK297.out (by have h_ := Kd.R_ne HO306.out BK297.out (by decide); intro e_; exact h_ (by rw [e_]; rfl)) _) 1).trans rfl))
  have hfz68_0 := kQF BK297.out 0
  have hfz68_1 := kQF BK297.out 1
  try go_wp2_with (first | ((with_reducible refine gQc (f := 42) rfl ?_); refine goesL_ (some 82) rfl rfl Try.func42 (by kernel_rfl) rfl #[.agg #[.int .i64 a0_0, .int .i64 a0_1], .slice (some ad322) l2.length c2, .slice (some ⟨go55, 0, none⟩) y326.length co55] rfl (by (try simp only [List.map_toArray, List.map_cons, List.map_nil]); first | done | (rw [show y326.length = y304.length from (Kd.R_reads' HQ67.out).1.symm] <;> rfl) | rfl | (simp only [List.length_drop, List.length_take]; rfl)) ?_; (with_reducible refine (impl_Field_compose.calls k1 a0_0 a0_1 _ _ l2 _ _ y326 t327 _ ?s1 ?s2 ?s3 ?s4 A56.out).mono ?_); (case s1 => exact Kd.C_below HR2.out (by repeat (first | (with_reducible first | exact HB.out | apply bQA | apply bQN | apply bQ1 | refine bQS ?_ GB55.out | refine bQS ?_ GE297.out) | exact HB.out))); (case s2 => exact HC2.out); (case s3 => refine (Kd.R_reads' (e := 2) (base := w.heap.size) (ok := fun k_ => ((True ∧ some k_ ≠ (u10 : Value).ownBlock) ∧ some k_ ≠ (.slice (some ad307) x11_1.length co59 : Value).ownBlock)) (n := y304.length) (c := co55) ?_).2.2; exact (tR HQ67.out)); (case s4 => rw [show y326.length = y304.length from (Kd.R_reads' HQ67.out).1.symm]; exact (Kd.R_reads' HO306.out).2.1); rintro e w69 ⟨v328, rfl, ho0, hb⟩; refine ⟨_, rfl, ?_⟩; refine qM6 (Kd.R_elder' (by (with_reducible repeat (first | apply Kd.RqA | apply Kd.RqN | apply Kd.RqD)); exact (Kd.R_mono (Kd.R_far (p := ⟨go55, ((ji52) : Int).toNat, none⟩) (Kd.R_mono HO_10.out (fun k_ hk => (⟨hk, fun e_ => hk.2 (by rw [e_]; rfl)⟩ : _ ∧ k_ ≠ go55))) (fun _ hk => hk.2) (.int .i64 t325)) (fun _ h_ => h_.1))) (Kd.R_base ho0) hb) (Kd.R_elder' (by (with_reducible repeat (first | apply Kd.RqA | apply Kd.RqN | apply Kd.RqD)); exact (Kd.R_mono (Kd.R_far (p := ⟨go55, ((ji52) : Int).toNat, none⟩) (Kd.R_mono HO_11.out (fun k_ hk => (⟨hk, fun e_ => hk.2 (by rw [e_]; rfl)⟩ : _ ∧ k_ ≠ go55))) (fun _ hk => hk.2) (.int .i64 t325)) (fun _ h_ => h_.1))) (Kd.R_base ho0) hb) (Kd.R_elder' (tR HQ67.out) (Kd.R_base ho0) hb) (Kd.R_lower (Kd.R_new' (Kd.R_new' (Kd.R_new' ho0 (Kd.R_lt (by (with_reducible repeat (first | apply Kd.RqA | apply Kd.RqN | apply Kd.RqD)); exact (Kd.R_mono (Kd.R_far (p := ⟨go55, ((ji52) : Int).toNat, none⟩) (Kd.R_mono HO_10.out (fun k_ hk => (⟨hk, fun e_ => hk.2 (by rw [e_]; rfl)⟩ : _ ∧ k_ ≠ go55))) (fun _ hk => hk.2) (.int .i64 t325)) (fun _ h_ => h_.1))))) (Kd.R_lt (by (with_reducible repeat (first | apply Kd.RqA | apply Kd.RqN | apply Kd.RqD)); exact (Kd.R_mono (Kd.R_far (p := ⟨go55, ((ji52) : Int).toNat, none⟩) (Kd.R_mono HO_11.out (fun k_ hk => (⟨hk, fun e_ => hk.2 (by rw [e_]; rfl)⟩ : _ ∧ k_ ≠ go55))) (fun _ hk => hk.2) (.int .i64 t325)) (fun _ h_ => h_.1))))) (Kd.R_lt (tR HQ67.out))) (bQZ (by repeat (first | (with_reducible first | exact HB.out | apply bQA | apply bQN | apply bQ1 | refine bQS ?_ GB55.out | refine bQS ?_ GE297.out) | exact HB.out)))) (kQB (g := gb297) (o := .cells #[.int .i64 a0_0, .int .i64 a0_1] 27 (0, 0)) (by (with_reducible repeat (first | refine kQN ?_ _ | refine kQD ?_ | refine kQA ?_ _)); refine kQR ?_ (by have h_ := Kd.R_ne HO306.out BK297.out (by decide); intro e_; exact h_ (by rw [e_]; rfl)) _; (with_reducible repeat (first | refine kQN ?_ _ | refine kQD ?_ | refine kQA ?_ _)); exact BK297.out) hb) (bQT (by repeat (first | (with_reducible first | exact HB.out | apply bQA | apply bQN | apply bQ1 | refine bQS ?_ GB55.out | refine bQS ?_ GE297.out) | exact HB.out)) hb) ?_; clear HO_10 HO_11 HO306 BK297 HB; intro HO_10 HO_11 HO306 HO329 BK297 HB; (try clear hb); (try clear hb2); (try clear hk); (try clear hi); (try clear ho0); obtain ⟨Ao70, co70, eo70⟩ := Kd.R_slice HO329.out; subst eo70) | ((with_reducible refine gQc (f := 43) rfl ?_); refine goesL_ (some 83) rfl rfl Try.func43 (by kernel_rfl) rfl #[.slice (some ad307) x11_1.length co59, .slice Ao70 t327.length co70] rfl tL ?_; (with_reducible refine (impl_plus.calls k1 _ _ x11_1 _ _ t327 t330 _ ?s1 ?s2 ?s3 ?s4 A57.out).mono ?_); (case s1 => exact tC ((Kd.R_reads' HO_11.out).2.2)); (case s2 => exact (Kd.R_reads' HO_11.out).2.1); (case s3 => exact tC ((Kd.R_reads' HO329.out).2.2)); (case s4 => exact (Kd.R_reads' HO329.out).2.1); rintro e w71 ⟨v331, rfl, ho0, hb⟩; refine ⟨_, rfl, ?_⟩; refine qM7 (Kd.R_elder' (tR HO_10.out) (Kd.R_base ho0) hb) (Kd.R_elder' (tR HO_11.out) (Kd.R_base ho0) hb) (Kd.R_elder' (tR HO306.out) (Kd.R_base ho0) hb) (Kd.R_elder' (tR HO329.out) (Kd.R_base ho0) hb) (Kd.R_lower (Kd.R_new' (Kd.R_new' (Kd.R_new' (Kd.R_new' ho0 (Kd.R_lt (tR HO_10.out))) (Kd.R_lt (tR HO_11.out))) (Kd.R_lt (tR HO306.out))) (Kd.R_lt (tR HO329.out))) (bQZ tB)) (tQ BK297.out hb) (bQT tB hb) ?_; clear HO_10 HO_11 HO306 HO329 BK297 HB; intro HO_10 HO_11 HO306 HO329 HO332 BK297 HB; (try clear hb); (try clear hb2); (try clear hk); (try clear hi); (try clear ho0); obtain ⟨Ao72, co72, eo72⟩ := Kd.R_slice HO_10.out; subst eo72) | ((with_reducible refine gQc (f := 43) rfl ?_); refine goesL_ (some 86) rfl rfl Try.func43 (by kernel_rfl) rfl #[.slice Ao72 x10_1.length co72, .slice (some ⟨go55, 0, none⟩) y326.length co55] rfl (by (try simp only [List.map_toArray, List.map_cons, List.map_nil]); first | done | (rw [show y326.length = y304.length from (Kd.R_reads' HO306.out).1.symm] <;> rfl) | rfl | (simp only [List.length_drop, List.length_take]; rfl)) ?_; (with_reducible refine (impl_plus.calls k1 _ _ x10_1 _ _ y326 t333 _ ?s1 ?s2 ?s3 ?s4 A58.out).mono ?_); (case s1 => exact tC ((Kd.R_reads' HO_10.out).2.2)); (case s2 => exact (Kd.R_reads' HO_10.out).2.1); (case s3 => exact tC ((Kd.R_reads' HO306.out).2.2)); (case s4 => rw [show y326.length = y304.length from (Kd.R_reads' HO306.out).1.symm]; exact (Kd.R_reads' HO306.out).2.1); rintro e w73 ⟨v334, rfl, ho0, hb⟩; refine ⟨_, rfl, ?_⟩; refine qM8 (Kd.R_elder' (tR HO_10.out) (Kd.R_base ho0) hb) (Kd.R_elder' (tR HO_11.out) (Kd.R_base ho0) hb) (Kd.R_elder' (tR HO306.out) (Kd.R_base ho0) hb) (Kd.R_elder' (tR HO329.out) (Kd.R_base ho0) hb) (Kd.R_elder' (tR HO332.out) (Kd.R_base ho0) hb) (Kd.R_lower (Kd.R_new' (Kd.R_new' (Kd.R_new' (Kd.R_new' (Kd.R_new' ho0 (Kd.R_lt (tR HO_10.out))) (Kd.R_lt (tR HO_11.out))) (Kd.R_lt (tR HO306.out))) (Kd.R_lt (tR HO329.out))) (Kd.R_lt (tR HO332.out))) (bQZ tB)) (tQ BK297.out hb) (bQT tB hb) ?_; clear HO_10 HO_11 HO306 HO329 HO332 BK297 HB; intro HO_10 HO_11 HO306 HO329 HO332 HO335 BK297 HB; (try clear hb); (try clear hb2); (try clear hk); (try clear hi); (try clear ho0)))
  try subst hji18
  try subst hji46
  go_roundg k1
  case measure => have := HK1.out; omega
  case rel => exact ⟨(t333), (t330), H', ⟨by have := HK1.out; omega⟩, ⟨by (with_reducible repeat (first | apply Kd.RqA | apply Kd.RqN | apply Kd.RqD)); exact Kd.R_mono HO335.out (fun _ hk => hk.2)⟩, ⟨by (with_reducible repeat (first | apply Kd.RqA | apply Kd.RqN | apply Kd.RqD)); exact Kd.R_mono HO332.out (fun _ hk => hk.2)⟩, ⟨tG BK297.out⟩, ⟨tB⟩⟩
end Go.Proofs.Ytkhjoomjjdgkjaa.P
