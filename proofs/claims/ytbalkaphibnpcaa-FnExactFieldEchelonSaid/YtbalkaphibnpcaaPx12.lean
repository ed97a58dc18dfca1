/- Functions of the program and what they tell, as the printing program wrote it. -/
import Derived.Test.YtbalkaphibnpcaaPx0
import Derived.Test.YtbalkaphibnpcaaPx3
import Derived.Test.YtbalkaphibnpcaaPx7
namespace Go.Proofs.Ytbalkaphibnpcaa.P
open Go.Shelf Go.RowKit Go.Proofs.YtbalkaphibnpcaaW.PrintWords Go.Proofs.YtbalkaphibnpcaaW.PrintLast Go.Proofs.YtbalkaphibnpcaaW.PrintMore
attribute [local go_sem] max2_int min2_int max_two min_two max_three min_three max_four min_four
set_option linter.unusedVariables false
set_option linter.unusedSimpArgs false
set_option maxHeartbeats 8000000
set_option maxRecDepth 100000
def impl_Field_rowsCode_1.f (k : Nat) (l0 : List Int) (a1_0 : Int) (a2_0 : Int) (a2_1 : Int) : Option (Bool) := (impl_size_int64_71.f l0).bind fun t225 => (if t225 = a1_0 then ((impl_Field_has.f k a2_0 a2_1 l0).bind fun t226 => (some (!t226))) else (some true))
theorem impl_Field_rowsCode_1.mono : ∀ a0 a1 a2 a3 k, LeO (impl_Field_rowsCode_1.f k a0 a1 a2 a3) (impl_Field_rowsCode_1.f (k + 1) a0 a1 a2 a3) := by
 intro a0 a1 a2 a3 k
 unfold impl_Field_rowsCode_1.f
 repeat' first
  | (with_reducible first | apply impl_Field_has.mono | exact LeO.refl _ | exact LeO.none _ | refine LeO.ite ?_ ?_ | refine LeO.bind ?_ (fun _ => ?_))
  | exact LeO.none _
  | refine LeO.ite ?_ ?_
  | refine LeO.bind ?_ (fun _ => ?_)
def impl_Field_rowsCode_1.T1 : Bool × List (List Nat × List Nat) := (true, [([], []), ([0], [0]), ([], []), ([1, 2], [1, 2]), ([3, 1], [3]), ([4], [4]), ([4], [4]), ([5, 6, 4, 4], [4, 5, 6]), ([7, 4], [4, 7]), ([4, 8], [4, 8]), ([9, 7, 0, 1, 2, 3, 4, 5, 6, 7, 8, 9], [9])])
def impl_Field_rowsCode_1.B1 : List Nat := [0, 1, 0, 7, 15, 31, 31, 127, 255, 511, 1023]
theorem impl_Field_rowsCode_1.tab1 : rtab .any (opsOf Try.f70 1) = impl_Field_rowsCode_1.T1 := by kernel_rfl
theorem impl_Field_rowsCode_1.bits1 : waitsOk impl_Field_rowsCode_1.T1.2 impl_Field_rowsCode_1.B1 = true := by kernel_rfl
theorem impl_Field_rowsCode_1.calls (k : Nat) (A0 : Option Addr) (c0 : Nat) (l0 : List Int) (g1_0 : Addr) (a1_0 : Int) (g2_0 : Addr) (a2_0 : Int) (a2_1 : Int) (r : Bool) (w : World) (hr0 : Kd.C (Kd.int .i64) w A0 l0.length l0) (hc0 : l0.length ≤ c0) (hb1_0 : AtC w g1_0 [.int .i64 a1_0]) (hb2_0 : AtC w g2_0 [.int .i64 a2_0, .int .i64 a2_1]) (h : impl_Field_rowsCode_1.f k l0 a1_0 a2_0 a2_1 = some r) :
 Calls Try.prog 70 #[.slice A0 l0.length c0, .pointer (some g1_0), .pointer (some g2_0)] w fun e w' => e = .returned (.bool r) ∧ Below w.heap.size w w' := by
 have hu28 := Try.underlying28
 have HR0 := Aq.mk hr0
 have HC0 := Aq.mk hc0
 clear hr0 hc0
 have BK48 := Aq.mk hb1_0
 clear hb1_0
 have BK56 := Aq.mk hb2_0
 clear hb2_0
 have HB := Aq.mk (Below.refl w.heap.size w)
 have H : ((impl_size_int64_71.f l0).bind fun t225 => (if t225 = a1_0 then ((impl_Field_has.f k a2_0 a2_1 l0).bind fun t226 => (some (!t226))) else (some true))) = some r := h
 clear h
 obtain ⟨t225, A4, H⟩ := qBd H
 by_cases c5 : t225 = a1_0
 ·rw [if_pos c5] at H
  have c5b0 := beq_iff_eq.mpr c5
  have c5b1 := bne_eq_false_iff_eq.mpr c5
  clear c5
  obtain ⟨t226, A6, H⟩ := qBd H
  obtain rfl := Option.some.inj H
  go_enter Try.func70, Try.ntmps70
  try go_wp2
  have n0_ := Aq.mk (bQ1 HB.out)
  clear HB
  have HB := n0_
  clear n0_
  refine start_ (n := 11) (S := fun w' => w'.cell? g1_0 = some (.int .i64 a1_0) ∧ w'.cell? g2_0 = some (.int .i64 a2_0) ∧ w'.cell? ⟨g2_0.block, g2_0.off + 1, none⟩ = some (.int .i64 a2_1)) (ds := []) #[false, false, false, false, false, false, false, false, false, false, false] (by kernel_rfl) rfl rfl ⟨(tcw tB (AtC.cell0 BK48.out _ rfl)), (tcw tB (AtC.cell0 BK56.out _ rfl)), (tcw tB (AtC.cell BK56.out 1 _ (by decide) rfl))⟩ (fun hHeld => ?_); refine with_tabW impl_Field_rowsCode_1.tab1 impl_Field_rowsCode_1.bits1 (fun HT_ HW_ => ?_)
  generalize w.drew = w7 at HB hHeld ⊢
  refine tP0 0 5 (bm 11 1) ?_
  refine tT3 2 7 (bm 11 5) ?_
  refine one_ (i := 1) (N := some 6) (bm 11 7) rfl rfl (one_of HT_.out (by kernel_rfl)) (by decide) (fun K hK => ?_)
  refine goes_ Try.func71 (by kernel_rfl) rfl #[.slice A0 l0.length c0] (by rfl) rfl rfl tL ?_
  with_reducible refine (impl_size_int64_71.calls _ _ l0 t225 _ ?s1 ?s2 A4.out).mono ?_
  (case s1 => exact tC ((Kd.C_below HR0.out HB.out)))
  (case s2 => exact HC0.out)
  rintro e w' ⟨rfl, ⟨nd, rfl⟩⟩
  refine ⟨_, rfl, ?_⟩
  refine hK.out _ _ ⟨(tcw tB (AtC.cell0 BK48.out _ rfl)), (tcw tB (AtC.cell0 BK56.out _ rfl)), (tcw tB (AtC.cell BK56.out 1 _ (by decide) rfl))⟩ (fun hHeld => ?_)
  clear hK K
  refine tN 6 ?_
  refine tP0 3 8 (bm 11 15) ?_
  refine tP0 4 9 (bm 11 31) ?_
  refine tP0 6 11 (bm 11 95) ?_
  refine tT3 5 10 (bm 11 127) ?_
  refine one_ (i := 7) (N := some 12) (bm 11 255) rfl rfl (one_of HT_.out (by kernel_rfl)) (by decide) (fun K hK => ?_)
  refine goes_ Try.func72 (by kernel_rfl) rfl #[.agg #[.int .i64 a2_0, .int .i64 a2_1], .slice A0 l0.length c0] (by rfl) rfl rfl tL ?_
  with_reducible refine (impl_Field_has.calls k a2_0 a2_1 _ _ l0 t226 _ ?s1 ?s2 A6.out).mono ?_
  (case s1 => exact tC ((Kd.C_below HR0.out tB)))
  (case s2 => exact HC0.out)
  rintro e w8 ⟨rfl, hb⟩
  refine ⟨_, rfl, ?_⟩
  have n0_ := Aq.mk (bQT tB hb)
  clear HB
  have HB := n0_
  clear n0_
  (try clear hb)
  (try clear hb2)
  (try clear hk)
  (try clear hi)
  refine hK.out _ _ ⟨(tcw tB (AtC.cell0 BK48.out _ rfl)), (tcw tB (AtC.cell0 BK56.out _ rfl)), (tcw tB (AtC.cell BK56.out 1 _ (by decide) rfl))⟩ (fun hHeld => ?_)
  clear hK K
  refine tN 12 ?_
  refine tP0 8 13 (bm 11 511) ?_
  refine tP0 9 14 (bm 11 1023) ?_
  refine tP0 10 4 (bm 11 2047) ?_
  refine done_ (done_of HT_.out (by kernel_rfl)) ?_
  try go_wp2
  go_ret
  exact ⟨tE, tB⟩
 rw [if_neg c5] at H
 have c5b0 := beq_eq_false_iff_ne.mpr c5
 have c5b1 := bne_iff_ne.mpr c5
 obtain rfl := Option.some.inj H
 go_enter Try.func70, Try.ntmps70
 try go_wp2
 have n0_ := Aq.mk (bQ1 HB.out)
 clear HB
 have HB := n0_
 clear n0_
 refine start_ (n := 11) (S := fun w' => w'.cell? g1_0 = some (.int .i64 a1_0)) (ds := []) #[false, false, false, false, false, false, false, false, false, false, false] (by kernel_rfl) rfl rfl ((tcw tB (AtC.cell0 BK48.out _ rfl))) (fun hHeld => ?_); refine with_tabW impl_Field_rowsCode_1.tab1 impl_Field_rowsCode_1.bits1 (fun HT_ HW_ => ?_)
 generalize w.drew = w9 at HB hHeld ⊢
 refine tP0 0 5 (bm 11 1) ?_
 refine take_ (i := 2) (N := some 7) (v := ?_) (a' := ?_) #[true, false, true, false, false, false, false, false, false, false, false] rfl rfl (take_ofW HT_.out HW_.out (by kernel_rfl)) (fun _ _ _ h => h) (Or.inl ⟨by rfl, ?_⟩) hHeld ?_ ?_
 rotate_left
 ·intro w' s0
  go_simp
  with_reducible rfl
 rotate_left
 ·simp only [Act.put, qSa, qSb, qSc, i64_w, i32_w]
  rfl
 refine one_ (i := 1) (N := some 6) (bm 11 7) rfl rfl (one_of HT_.out (by kernel_rfl)) (by decide) (fun K hK => ?_)
 refine goes_ Try.func71 (by kernel_rfl) rfl #[.slice A0 l0.length c0] (by rfl) rfl rfl tL ?_
 with_reducible refine (impl_size_int64_71.calls _ _ l0 t225 _ ?s1 ?s2 A4.out).mono ?_
 (case s1 => exact tC ((Kd.C_below HR0.out HB.out)))
 (case s2 => exact HC0.out)
 rintro e w' ⟨rfl, ⟨nd, rfl⟩⟩
 refine ⟨_, rfl, ?_⟩
 refine hK.out _ _ ((tcw tB (AtC.cell0 BK48.out _ rfl))) (fun hHeld => ?_)
 clear hK K
 refine tN 6 ?_
 refine tP0 3 8 (bm 11 15) ?_
 refine tP0 4 9 (bm 11 31) ?_
 refine pure_ (i := 5) (N := some 10) (v := undef) (a' := ?_) #[true, true, true, true, true, true, false, false, false, false, false] rfl rfl (any_of HT_.out (by kernel_rfl)) (fun _ _ _ h => h) (Or.inr ⟨by rfl, rfl⟩) ?_ ?_
 rotate_left
 ·simp only [Act.put, qSa, qSb, qSc, i64_w, i32_w]
  rfl
 refine pure_ (i := 6) (N := some 11) (v := undef) (a' := ?_) #[true, true, true, true, true, true, true, false, false, false, false] rfl rfl (any_of HT_.out (by kernel_rfl)) (fun _ _ _ h => h) (Or.inr ⟨by rfl, rfl⟩) ?_ ?_
 rotate_left
 ·simp only [Act.put, qSa, qSb, qSc, i64_w, i32_w]
  rfl
 refine pure_ (i := 7) (N := some 12) (v := undef) (a' := ?_) #[true, true, true, true, true, true, true, true, false, false, false] rfl rfl (any_of HT_.out (by kernel_rfl)) (fun _ _ _ h => h) (Or.inr ⟨by rfl, rfl⟩) ?_ ?_
 rotate_left
 ·simp only [Act.put, qSa, qSb, qSc, i64_w, i32_w]
  rfl
 refine pure_ (i := 8) (N := some 13) (v := undef) (a' := ?_) #[true, true, true, true, true, true, true, true, true, false, false] rfl rfl (any_of HT_.out (by kernel_rfl)) (fun _ _ _ h => h) (Or.inr ⟨by rfl, rfl⟩) ?_ ?_
 rotate_left
 ·simp only [Act.put, qSa, qSb, qSc, i64_w, i32_w]
  rfl
 refine tP0 9 14 (bm 11 1023) ?_
 refine tP0 10 4 (bm 11 2047) ?_
 refine done_ (done_of HT_.out (by kernel_rfl)) ?_
 try go_wp2
 go_ret
 exact ⟨tE, tB⟩
def slices_IndexFunc_int64_int64_AT_impl_Field_rowsCode_1.l0 : Nat → List (List Int) → Int → Int → Int → Int → Int → Option (Int)
  | 0, _, _, _, _, _, _ => none
  | k + 1, x0, x7, x8, x49000, x50000, x50001 => if x8 < x7 then (if 0 ≤ x8 then (if x8 < (x0.length : Int) then ((impl_Field_rowsCode_1.f k (rd_L1 x0 x8) x49000 x50000 x50001).bind fun t228 => (if t228 = true then (some x8) else (slices_IndexFunc_int64_int64_AT_impl_Field_rowsCode_1.l0 k x0 x7 (wrap64 (x8 + 1)) x49000 x50000 x50001))) else (none)) else (none)) else (some (-1))
def slices_IndexFunc_int64_int64_AT_impl_Field_rowsCode_1.f (k : Nat) (l0 : List (List Int)) (a1_0 : Int) (a1_1 : Int) (a1_2 : Int) : Option (Int) := slices_IndexFunc_int64_int64_AT_impl_Field_rowsCode_1.l0 k l0 (l0.length : Int) 0 a1_0 a1_1 a1_2
theorem slices_IndexFunc_int64_int64_AT_impl_Field_rowsCode_1.mono_l : ∀ k, (∀ y0 y1 y2 y3 y4 y5, LeO (slices_IndexFunc_int64_int64_AT_impl_Field_rowsCode_1.l0 k y0 y1 y2 y3 y4 y5) (slices_IndexFunc_int64_int64_AT_impl_Field_rowsCode_1.l0 (k + 1) y0 y1 y2 y3 y4 y5))
 | 0 => fun _ _ _ _ _ _ r h => by simp [slices_IndexFunc_int64_int64_AT_impl_Field_rowsCode_1.l0] at h
 | k + 1 => by
  have ih0 := slices_IndexFunc_int64_int64_AT_impl_Field_rowsCode_1.mono_l k
  ·intro y0 y1 y2 y3 y4 y5
   unfold slices_IndexFunc_int64_int64_AT_impl_Field_rowsCode_1.l0
   repeat' first
   | (with_reducible first | apply ih0 | apply impl_Field_rowsCode_1.mono | exact LeO.refl _ | exact LeO.none _ | refine LeO.ite ?_ ?_ | refine LeO.bind ?_ (fun _ => ?_))
   | exact LeO.none _
   | refine LeO.ite ?_ ?_
   | refine LeO.bind ?_ (fun _ => ?_)
theorem slices_IndexFunc_int64_int64_AT_impl_Field_rowsCode_1.mono : ∀ a0 a1 a2 a3 k, LeO (slices_IndexFunc_int64_int64_AT_impl_Field_rowsCode_1.f k a0 a1 a2 a3) (slices_IndexFunc_int64_int64_AT_impl_Field_rowsCode_1.f (k + 1) a0 a1 a2 a3) := by
 intro a0 a1 a2 a3 k
 have ih0 := slices_IndexFunc_int64_int64_AT_impl_Field_rowsCode_1.mono_l k
 unfold slices_IndexFunc_int64_int64_AT_impl_Field_rowsCode_1.f
 repeat' first
  | (with_reducible first | apply ih0 | apply impl_Field_rowsCode_1.mono | exact LeO.refl _ | exact LeO.none _ | refine LeO.ite ?_ ?_ | refine LeO.bind ?_ (fun _ => ?_))
  | exact LeO.none _
  | refine LeO.ite ?_ ?_
  | refine LeO.bind ?_ (fun _ => ?_)
theorem slices_IndexFunc_int64_int64_AT_impl_Field_rowsCode_1.calls (k : Nat) (A0 : Option Addr) (c0 : Nat) (l0 : List (List Int)) (g1_0 : Addr) (g1_1 : Addr) (a1_0 : Int) (a1_1 : Int) (a1_2 : Int) (r : Int) (w : World) (hr0 : Kd.C (Kd.slice 2 (Kd.int .i64)) w A0 l0.length l0) (hc0 : l0.length ≤ c0) (hb1_0 : AtC w g1_0 [.int .i64 a1_0]) (hb1_1 : AtC w g1_1 [.int .i64 a1_1, .int .i64 a1_2]) (h : slices_IndexFunc_int64_int64_AT_impl_Field_rowsCode_1.f k l0 a1_0 a1_1 a1_2 = some r) :
 Calls Try.prog 74 #[.slice A0 l0.length c0, .func (.func 70) #[] #[.pointer (some g1_0), .pointer (some g1_1)]] w fun e w' => e = .returned (.int .i64 r) ∧ Below w.heap.size w w' := by
 have eg70 : ∀ (args_ : Array Value) (w_ : World), (callFunc 70 args_).run Try.prog w_ = .ok (.enter 70 args_) w_ := enters_of Try.func70 (by kernel_rfl) rfl
 have HR0 := Aq.mk hr0
 have HC0 := Aq.mk hc0
 clear hr0 hc0
 have BK48 := Aq.mk hb1_0
 clear hb1_0
 have BK49 := Aq.mk hb1_1
 clear hb1_1
 have HB := Aq.mk (Below.refl w.heap.size w)
 have H : (slices_IndexFunc_int64_int64_AT_impl_Field_rowsCode_1.l0 k l0 (l0.length : Int) 0 a1_0 a1_1 a1_2) = some r := h
 clear h
 replace H' := Aq.mk H
 clear H
 go_enter Try.func74, Try.ntmps74
 go_wp2
 go_loopg [8] k (fun kq v8 w' => ∃ (x8_1 : Int), v8 = .int .i64 x8_1 ∧ Aq (slices_IndexFunc_int64_int64_AT_impl_Field_rowsCode_1.l0 kq l0 (l0.length : Int) x8_1 a1_0 a1_1 a1_2 = some r) ∧ Aq (kq ≤ k) ∧ Aq (Below w.heap.size w w'))
 case atStart => exact ⟨(0), tS, H', ⟨Nat.le_refl _⟩, ⟨tB⟩⟩
 clear H'
 obtain ⟨x8_1, rfl, HA, HK1, HB⟩ := hrel
 cases gk with
 | zero => exact absurd HA.out (by simp [slices_IndexFunc_int64_int64_AT_impl_Field_rowsCode_1.l0])
 | succ k1 =>
  have H := HA.out
  clear HA
  simp only [slices_IndexFunc_int64_int64_AT_impl_Field_rowsCode_1.l0] at H
  by_cases c3 : x8_1 < (l0.length : Int)
  rotate_left
  ·rw [if_neg c3] at H
   have c3b0 := decide_eq_false c3
   clear c3
   obtain rfl := Option.some.inj H
   go_wp2
   go_ret
   exact ⟨tE, tB⟩
  rw [if_pos c3] at H
  have c3b0 := decide_eq_true c3
  clear c3
  by_cases c4 : 0 ≤ x8_1
  rotate_left
  ·rw [if_neg c4] at H
   exact absurd H (by simp)
  rw [if_pos c4] at H
  have c4b0 := decide_eq_true c4
  clear c4
  by_cases c5 : x8_1 < (l0.length : Int)
  rotate_left
  ·rw [if_neg c5] at H
   exact absurd H (by simp)
  rw [if_pos c5] at H
  have c5b0 := decide_eq_true c5
  clear c5
  obtain ⟨t228, A6, H⟩ := qBd H
  by_cases c7 : t228 = true
  ·subst c7
   rw [if_pos rfl] at H
   obtain rfl := Option.some.inj H
   have p227 : 0 ≤ (x8_1 : Int) := of_decide_eq_true tA
   have q227 : x8_1 < (l0.length : Int) := of_decide_eq_true tA
   obtain ⟨ad227, A227_0, c227_0, e227, hx227_0, hl227_0, hi227_0⟩ := at_L1 HR0.out x8_1 p227 q227
   cases e227
   replace hx227_0 := (HB.out.cell (World.block_lt_of_cell? w _ hx227_0)).trans hx227_0
   have HR227_0 := Aq.mk hi227_0
   have HC227_0 := Aq.mk hl227_0
   clear hi227_0 hl227_0
   replace p227 := eq_true p227
   replace q227 := eq_true q227
   go_wp2_with (first | (go_at_fn 70; (with_reducible refine (impl_Field_rowsCode_1.calls k1 _ _ (rd_L1 l0 x8_1) (g1_0 : Addr) a1_0 (g1_1 : Addr) a1_1 a1_2 true _ ?s1 ?s2 ?s3 ?s4 A6.out).mono ?_); (case s1 => exact tC ((Kd.C_below HR227_0.out HB.out))); (case s2 => exact HC227_0.out); (case s3 => repeat (first | exact (AtC.below BK48.out HB.out) | (with_reducible refine AtC.alloc ?_ _) | (with_reducible refine AtC.drewN ?_ _) | (with_reducible refine AtC.drew ?_))); (case s4 => repeat (first | exact (AtC.below BK49.out HB.out) | (with_reducible refine AtC.alloc ?_ _) | (with_reducible refine AtC.drewN ?_ _) | (with_reducible refine AtC.drew ?_))); rintro e w8 ⟨rfl, hb⟩; refine qM1 (bQT tB hb) ?_; clear HB; intro HB; (try clear hb); (try clear hb2); (try clear hk); (try clear hi)))
   go_ret
   exact ⟨tE, tB⟩
  replace c7 := Bool.eq_false_iff.mpr c7
  subst c7
  rw [if_neg (show ¬ (false = true) by decide)] at H
  replace H' := Aq.mk H
  clear H
  have p227 : 0 ≤ (x8_1 : Int) := of_decide_eq_true tA
  have q227 : x8_1 < (l0.length : Int) := of_decide_eq_true tA
  obtain ⟨ad227, A227_0, c227_0, e227, hx227_0, hl227_0, hi227_0⟩ := at_L1 HR0.out x8_1 p227 q227
  cases e227
  replace hx227_0 := (HB.out.cell (World.block_lt_of_cell? w _ hx227_0)).trans hx227_0
  have HR227_0 := Aq.mk hi227_0
  have HC227_0 := Aq.mk hl227_0
  clear hi227_0 hl227_0
  replace p227 := eq_true p227
  replace q227 := eq_true q227
  go_wp2_with (first | (go_at_fn 70; (with_reducible refine (impl_Field_rowsCode_1.calls k1 _ _ (rd_L1 l0 x8_1) (g1_0 : Addr) a1_0 (g1_1 : Addr) a1_1 a1_2 false _ ?s1 ?s2 ?s3 ?s4 A6.out).mono ?_); (case s1 => exact tC ((Kd.C_below HR227_0.out HB.out))); (case s2 => exact HC227_0.out); (case s3 => repeat (first | exact (AtC.below BK48.out HB.out) | (with_reducible refine AtC.alloc ?_ _) | (with_reducible refine AtC.drewN ?_ _) | (with_reducible refine AtC.drew ?_))); (case s4 => repeat (first | exact (AtC.below BK49.out HB.out) | (with_reducible refine AtC.alloc ?_ _) | (with_reducible refine AtC.drewN ?_ _) | (with_reducible refine AtC.drew ?_))); rintro e w9 ⟨rfl, hb⟩; refine qM1 (bQT tB hb) ?_; clear HB; intro HB; (try clear hb); (try clear hb2); (try clear hk); (try clear hi)))
  go_roundg k1
  case measure => have := HK1.out; omega
  case rel => exact ⟨(wrap64 (x8_1 + 1)), tS, H', ⟨by have := HK1.out; omega⟩, ⟨tB⟩⟩
def slices_ContainsFunc_int64_int64_AT_impl_Field_rowsCode_1.f (k : Nat) (l0 : List (List Int)) (a1_0 : Int) (a1_1 : Int) (a1_2 : Int) : Option (Bool) := (slices_IndexFunc_int64_int64_AT_impl_Field_rowsCode_1.f k l0 a1_0 a1_1 a1_2).bind fun t229 => (some (decide (t229 ≥ 0)))
theorem slices_ContainsFunc_int64_int64_AT_impl_Field_rowsCode_1.mono : ∀ a0 a1 a2 a3 k, LeO (slices_ContainsFunc_int64_int64_AT_impl_Field_rowsCode_1.f k a0 a1 a2 a3) (slices_ContainsFunc_int64_int64_AT_impl_Field_rowsCode_1.f (k + 1) a0 a1 a2 a3) := by
 intro a0 a1 a2 a3 k
 unfold slices_ContainsFunc_int64_int64_AT_impl_Field_rowsCode_1.f
 repeat' first
  | (with_reducible first | apply slices_IndexFunc_int64_int64_AT_impl_Field_rowsCode_1.mono | exact LeO.refl _ | exact LeO.none _ | refine LeO.ite ?_ ?_ | refine LeO.bind ?_ (fun _ => ?_))
  | exact LeO.none _
  | refine LeO.ite ?_ ?_
  | refine LeO.bind ?_ (fun _ => ?_)
theorem slices_ContainsFunc_int64_int64_AT_impl_Field_rowsCode_1.calls (k : Nat) (A0 : Option Addr) (c0 : Nat) (l0 : List (List Int)) (g1_0 : Addr) (g1_1 : Addr) (a1_0 : Int) (a1_1 : Int) (a1_2 : Int) (r : Bool) (w : World) (hr0 : Kd.C (Kd.slice 2 (Kd.int .i64)) w A0 l0.length l0) (hc0 : l0.length ≤ c0) (hb1_0 : AtC w g1_0 [.int .i64 a1_0]) (hb1_1 : AtC w g1_1 [.int .i64 a1_1, .int .i64 a1_2]) (h : slices_ContainsFunc_int64_int64_AT_impl_Field_rowsCode_1.f k l0 a1_0 a1_1 a1_2 = some r) :
 Calls Try.prog 69 #[.slice A0 l0.length c0, .func (.func 70) #[] #[.pointer (some g1_0), .pointer (some g1_1)]] w fun e w' => e = .returned (.bool r) ∧ Below w.heap.size w w' := by
 have HR0 := Aq.mk hr0
 have HC0 := Aq.mk hc0
 clear hr0 hc0
 have BK48 := Aq.mk hb1_0
 clear hb1_0
 have BK49 := Aq.mk hb1_1
 clear hb1_1
 have HB := Aq.mk (Below.refl w.heap.size w)
 have H : ((slices_IndexFunc_int64_int64_AT_impl_Field_rowsCode_1.f k l0 a1_0 a1_1 a1_2).bind fun t229 => (some (decide (t229 ≥ 0)))) = some r := h
 clear h
 obtain ⟨t229, A3, H⟩ := qBd H
 obtain rfl := Option.some.inj H
 go_enter Try.func69, Try.ntmps69
 go_wp2_with (first | ((with_reducible refine gQc (f := 74) rfl ?_); refine goesL_ (some 7) rfl rfl Try.func74 (by kernel_rfl) rfl #[.slice A0 l0.length c0, .func (.func 70) #[] #[.pointer (some g1_0), .pointer (some g1_1)]] rfl tL ?_; (with_reducible refine (slices_IndexFunc_int64_int64_AT_impl_Field_rowsCode_1.calls k _ _ l0 (g1_0 : Addr) (g1_1 : Addr) a1_0 a1_1 a1_2 t229 _ ?s1 ?s2 ?s3 ?s4 A3.out).mono ?_); (case s1 => exact tC HR0.out); (case s2 => exact HC0.out); (case s3 => repeat (first | exact BK48.out | (with_reducible refine AtC.alloc ?_ _) | (with_reducible refine AtC.drewN ?_ _) | (with_reducible refine AtC.drew ?_))); (case s4 => repeat (first | exact BK49.out | (with_reducible refine AtC.alloc ?_ _) | (with_reducible refine AtC.drewN ?_ _) | (with_reducible refine AtC.drew ?_))); rintro e w4 ⟨rfl, hb⟩; refine ⟨_, rfl, ?_⟩; refine qM1 (bQT tB hb) ?_; clear HB; intro HB; (try clear hb); (try clear hb2); (try clear hk); (try clear hi)))
 go_ret
 exact ⟨tE, tB⟩
end Go.Proofs.Ytbalkaphibnpcaa.P
