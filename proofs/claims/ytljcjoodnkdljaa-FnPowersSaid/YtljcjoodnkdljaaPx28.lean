/- Functions of the program and what they tell, as the printing program wrote it. -/
import Derived.Test.YtljcjoodnkdljaaPx0
import Derived.Test.YtljcjoodnkdljaaPx4
import Derived.Test.YtljcjoodnkdljaaPx10
import Derived.Test.YtljcjoodnkdljaaPx25
import Derived.Test.YtljcjoodnkdljaaPx27
namespace Go.Proofs.Ytljcjoodnkdljaa.P
open Go.Shelf Go.RowKit Go.Proofs.YtljcjoodnkdljaaW.PrintWords Go.Proofs.YtljcjoodnkdljaaW.PrintLast Go.Proofs.YtljcjoodnkdljaaW.PrintMore
attribute [local go_sem] max2_int min2_int max_two min_two max_three min_three max_four min_four
set_option linter.unusedVariables false
set_option linter.unusedSimpArgs false
def impl_OrderIn.j0 : Nat → Int → Int → Bool → Int → Int → Option (Int × Int)
  | 0, _, _, _, _, _ => none
  | k + 1, x1, x6, x16, x523000, x523001 => if x16 = true then (if 4 = 0 then ((impl_Field_order.f k x523000 x523001 x1).bind fun t527 => (some (t527, 0))) else (some (0, 4))) else (if x6 = 0 then ((impl_Field_order.f k x523000 x523001 x1).bind fun t528 => (some (t528, 0))) else (some (0, x6)))
def impl_OrderIn.f (k : Nat) (a0_0 : Int) (a0_1 : Int) (a1 : Int) : Option (Int × Int) := (impl_Field_code.f k a0_0 a0_1 true (([a1] : List Int))).bind fun t526 => (if t526 = 0 then (impl_OrderIn.j0 k a1 t526 (a1 == 0) a0_0 a0_1) else (impl_OrderIn.j0 k a1 t526 false a0_0 a0_1))
theorem impl_OrderIn.mono_l : ∀ k, (∀ y0 y1 y2 y3 y4, LeO (impl_OrderIn.j0 k y0 y1 y2 y3 y4) (impl_OrderIn.j0 (k + 1) y0 y1 y2 y3 y4))
 | 0 => fun _ _ _ _ _ r h => by simp [impl_OrderIn.j0] at h
 | k + 1 => by
  have ih0 := impl_OrderIn.mono_l k
  ·intro y0 y1 y2 y3 y4
   unfold impl_OrderIn.j0
   repeat' first
   | (with_reducible first | exact ih0 _ _ _ _ _ | exact impl_Field_code.mono _ _ _ _ _ | exact impl_Field_order.mono _ _ _ _ | exact LeO.refl _ | exact LeO.none _ | refine LeO.ite ?_ ?_ | refine LeO.bind ?_ (fun _ => ?_))
   | exact LeO.none _
   | refine LeO.ite ?_ ?_
   | refine LeO.bind ?_ (fun _ => ?_)
theorem impl_OrderIn.mono : ∀ a0 a1 a2 k, LeO (impl_OrderIn.f k a0 a1 a2) (impl_OrderIn.f (k + 1) a0 a1 a2) := by
 intro a0 a1 a2 k
 have ih0 := impl_OrderIn.mono_l k
 unfold impl_OrderIn.f
 repeat' first
  | (with_reducible first | exact ih0 _ _ _ _ _ | exact impl_Field_code.mono _ _ _ _ _ | exact impl_Field_order.mono _ _ _ _ | exact LeO.refl _ | exact LeO.none _ | refine LeO.ite ?_ ?_ | refine LeO.bind ?_ (fun _ => ?_))
  | exact LeO.none _
  | refine LeO.ite ?_ ?_
  | refine LeO.bind ?_ (fun _ => ?_)
set_option maxHeartbeats 8000000 in
set_option maxRecDepth 100000 in
theorem impl_OrderIn.calls (k : Nat) (a0_0 : Int) (a0_1 : Int) (a1 : Int) (r1 : Int) (r2 : Int) (w : World) (h : impl_OrderIn.f k a0_0 a0_1 a1 = some (r1, r2)) :
 Calls Try.prog 27 #[.agg #[.int .i64 a0_0, .int .i64 a0_1], .int .i64 a1] w fun e w' => e = .returned (.tuple #[.int .i64 r1, .int .i64 r2]) ∧ Below w.heap.size w w' := by
 have hu39 := Try.underlying39
 have HB := Aq.mk (Below.refl w.heap.size w)
 have H : ((impl_Field_code.f k a0_0 a0_1 true (([a1] : List Int))).bind fun t526 => (if t526 = 0 then (impl_OrderIn.j0 k a1 t526 (a1 == 0) a0_0 a0_1) else (impl_OrderIn.j0 k a1 t526 false a0_0 a0_1))) = some (r1, r2) := h
 clear h
 obtain ⟨y523, hy523⟩ : ∃ y_ : List Int, y_ = (([a1] : List Int)) := ⟨_, rfl⟩
 replace H : ((impl_Field_code.f k a0_0 a0_1 true y523).bind fun t526 => (if t526 = 0 then (impl_OrderIn.j0 k a1 t526 (a1 == 0) a0_0 a0_1) else (impl_OrderIn.j0 k a1 t526 false a0_0 a0_1))) = some (r1, r2) := by first | (rw [hy523]; with_reducible exact H) | (have H2_ := (Option.bind_some _ _).symm.trans H; rw [hy523]; with_reducible exact H2_) | (have H2_ := (Option.bind_some _ _).symm.trans H; with_reducible exact H2_) | with_reducible exact H | (rw [hy523]; exact H) | exact H
 have Ny523 := Aq.mk hy523
 clear hy523
 replace H := Option.bind_eq_some_iff.mp H
 obtain ⟨t526, A30, H⟩ := H
 replace H : (if t526 = 0 then (impl_OrderIn.j0 k a1 t526 (a1 == 0) a0_0 a0_1) else (impl_OrderIn.j0 k a1 t526 false a0_0 a0_1)) = some (r1, r2) := H
 have A3 := Aq.mk A30
 clear A30
 have HC4 := Aq.mk H
 clear H
 go_enter Try.func27, Try.ntmps27
 go_upto_region 2 with (first | ((with_reducible refine gQd (N := 2) rfl ?_); refine xQe ?hg (N := 2) ?hd (cs := #[.int .i64 a0_0, .int .i64 a0_1]) (t := 39) ?hr ?_; (case hd => rfl); (case hg => rfl); (case hr => first | (go_simp; done) | (go_simp; rfl)); intro gb522 hg w5 hbox hb; have n0_ := Aq.mk (bQT (by repeat (first | (with_reducible first | exact HB.out | apply bQA | apply bQN | apply bQ1) | exact HB.out)) hb); have n1_ := Aq.mk (hbox); have n2_ := Aq.mk ((by rw [hg]; exact (bQZ (by repeat (first | (with_reducible first | exact HB.out | apply bQA | apply bQN | apply bQ1) | exact HB.out))) : w.heap.size ≤ gb522)); have n3_ := Aq.mk ((by rw [hg]; exact (bQZ (by repeat (first | (with_reducible first | exact HB.out | apply bQA | apply bQN | apply bQ1) | exact HB.out))) : w.heap.size ≤ gb522)); clear HB; have HB := n0_; have BK522 := n1_; have GW522 := n2_; have GE522 := n3_; clear n0_ n1_ n2_ n3_; clear hb hbox hg; have hcz6_0 : w5.cell? ⟨gb522, 0, none⟩ = some (.int .i64 a0_0) := (kQC BK522.out 0).trans rfl; have hcz6_1 : w5.cell? ⟨gb522, 1, none⟩ = some (.int .i64 a0_1) := (kQC BK522.out 1).trans rfl; have hfz6_0 := kQF BK522.out 0; have hfz6_1 := kQF BK522.out 1) | ((with_reducible refine gQd (N := 9) rfl ?_); refine Kd.R_lit (Kd.int .i64) _ 2 ?hg (N := 9) ?hd (xs := ([a1] : List Int)) (inner := [.int .i64 a1]) (ok := fun _ => True) (okp := fun _ => True) ?hr ?hp (fun _ hk => hk) trivial (Below.refl _ _) (Nat.le_refl _) (by simp) ?_; (case hd => rfl); (case hg => rfl); (case hr => first | (go_simp; done) | (go_simp; rfl)); (case hp => exact (Reps.one (show Kd.M (Kd.int .i64) _ _ _ a1 [.int .i64 a1] from rfl) (Reps.none _ _))); intro v524 w7 ho8 hb hg_ hnew_; clear hg_ hnew_; (first | rw [← Ny523.out] at ho8 | (simp only [Int.reduceToNat] at ho8; rw [← Ny523.out] at ho8)); have n0_ := Aq.mk (Kd.R_lower ho8 (bQZ (by repeat (first | (with_reducible first | exact HB.out | apply bQA | apply bQN | apply bQ1 | refine bQS ?_ GE522.out) | exact HB.out)))); have n1_ := Aq.mk (kQB (g := gb522) (o := .cells #[.int .i64 a0_0, .int .i64 a0_1] 39 (0, 0)) (by (with_reducible repeat (first | refine kQN ?_ _ | refine kQD ?_ | refine kQA ?_ _)); exact BK522.out) hb); have n2_ := Aq.mk (bQT (by repeat (first | (with_reducible first | exact HB.out | apply bQA | apply bQN | apply bQ1 | refine bQS ?_ GE522.out) | exact HB.out)) hb); clear BK522; clear HB; have HO525 := n0_; have BK522 := n1_; have HB := n2_; clear n0_ n1_ n2_; clear hb ho8; obtain ⟨Ao9, co9, eo9⟩ := Kd.R_slice HO525.out; subst eo9) | ((with_reducible refine gQc (f := 60) rfl ?_); refine goesL_ (some 10) rfl rfl Try.func60 (by kernel_rfl) rfl #[.agg #[.int .i64 a0_0, .int .i64 a0_1], .bool true, .slice Ao9 y523.length co9] rfl (by (try simp only [List.map_toArray, List.map_cons, List.map_nil]); first | done | rfl | (simp only [List.length_drop, List.length_take]; rfl)) ?_; (with_reducible refine (impl_Field_code.calls k a0_0 a0_1 true _ _ y523 t526 _ ?side1 ?side2 A3.out).mono ?_); (case side1 => repeat (first | exact (Kd.R_reads' HO525.out).2.2 | (with_reducible refine Kd.CqA ?_ _) | (with_reducible refine Kd.CqN ?_ _) | (with_reducible refine Kd.CqD ?_))); (case side2 => exact (Kd.R_reads' HO525.out).2.1); rintro e w10 ⟨rfl, hb⟩; refine ⟨_, rfl, ?_⟩; have n0_ := Aq.mk (Kd.R_below (by (with_reducible repeat (first | apply Kd.RqA | apply Kd.RqN | apply Kd.RqD)); exact HO525.out) hb); have n1_ := Aq.mk (kQB (g := gb522) (o := .cells #[.int .i64 a0_0, .int .i64 a0_1] 39 (0, 0)) (by (with_reducible repeat (first | refine kQN ?_ _ | refine kQD ?_ | refine kQA ?_ _)); exact BK522.out) hb); have n2_ := Aq.mk (bQT (by repeat (first | (with_reducible first | exact HB.out | apply bQA | apply bQN | apply bQ1 | refine bQS ?_ GE522.out) | exact HB.out)) hb); clear HO525; clear BK522; clear HB; have HO525 := n0_; have BK522 := n1_; have HB := n2_; clear n0_ n1_ n2_; (try clear hb); (try clear hb2); (try clear hk); (try clear hi)))
 (try simp only [Act.put, qSa, qSb, qSc])
 go_cut [16] (fun v16 wc => ∃ (kq : Nat) (x16_3 : Bool), v16 = .bool x16_3 ∧ Aq (impl_OrderIn.j0 kq a1 t526 x16_3 a0_0 a0_1 = some (r1, r2)) ∧ Aq (kq ≤ k) ∧ Aq (wc.heap[gb522]? = some (.cells #[.int .i64 a0_0, .int .i64 a0_1] 39 (0, 0))) ∧ Aq (Below w.heap.size w wc))
 case first =>
  have H := HC4.out
  clear HC4
  by_cases c11 : t526 = 0
  ·rw [if_pos c11] at H
   have c11b0 : (t526 == 0) = true := beq_iff_eq.mpr c11
   have c11b1 : (t526 != 0) = false := bne_eq_false_iff_eq.mpr c11
   clear c11
   (first | rw [c11b0] | (simp only [i64_w, i32_w]; rw [c11b0]) | skip)
   have H' := Aq.mk H
   clear H
   go_wp2
   go_meet
   case rel => exact ⟨_, ((a1 == 0)), (by first | rfl | (simp; done) | (simp [*]; done)), H', ⟨by first | omega | exact Nat.le_refl _⟩, ⟨by (with_reducible repeat (first | refine kQN ?_ _ | refine kQD ?_ | refine kQA ?_ _)); exact BK522.out⟩, ⟨by repeat (first | (with_reducible first | exact HB.out | apply bQA | apply bQN | apply bQ1 | refine bQS ?_ GE522.out) | exact HB.out)⟩⟩
  ·rw [if_neg c11] at H
   have c11b0 : (t526 == 0) = false := beq_eq_false_iff_ne.mpr c11
   have c11b1 : (t526 != 0) = true := bne_iff_ne.mpr c11
   (first | rw [c11b0] | (simp only [i64_w, i32_w]; rw [c11b0]) | skip)
   have H' := Aq.mk H
   clear H
   go_wp2
   go_meet
   case rel => exact ⟨_, (false), (by first | rfl | (simp; done) | (simp [*]; done)), H', ⟨by first | omega | exact Nat.le_refl _⟩, ⟨by (with_reducible repeat (first | refine kQN ?_ _ | refine kQD ?_ | refine kQA ?_ _)); exact BK522.out⟩, ⟨by repeat (first | (with_reducible first | exact HB.out | apply bQA | apply bQN | apply bQ1 | refine bQS ?_ GE522.out) | exact HB.out)⟩⟩
 case rest =>
  clear HC4
  try clear c1
  try clear c2
  try clear p2
  try clear c6
  try clear c11
  try clear c11b0
  try clear c11b1
  try clear hcz6_0
  try clear hcz6_1
  try clear hfz6_0
  try clear hfz6_1
  obtain ⟨kq, x16_3, rfl, HA, HJ3, BK522, HB⟩ := hcut
  cases kq with
  | zero => exact absurd HA.out (by simp [impl_OrderIn.j0])
  | succ kj3 =>
   have H := HA.out
   clear HA
   simp only [impl_OrderIn.j0] at H
   by_cases c12 : x16_3 = true
   ·subst c12
    have H1 : (if 4 = 0 then ((impl_Field_order.f kj3 a0_0 a0_1 a1).bind fun t527 => (some (t527, 0))) else (some (0, 4))) = some (r1, r2) := by rw [if_pos rfl] at H; exact H
    clear H
    have H := H1
    clear H1
    by_cases c13 : 4 = 0
    ·exact absurd c13 (by decide)
    ·rw [if_neg c13] at H
     have c13b0 : (4 == 0) = false := beq_eq_false_iff_ne.mpr c13
     have c13b1 : (4 != 0) = true := bne_iff_ne.mpr c13
     simp only [Option.some.injEq, Prod.mk.injEq] at H
     obtain ⟨rfl, rfl⟩ := H
     go_wp2
     go_ret2
     exact ⟨by first | rfl | (simp [errW_none, errW_some] <;> rfl) | (simp [*, errW_none, errW_some] <;> rfl), by repeat (first | (with_reducible first | exact HB.out | apply bQA | apply bQN | apply bQ1 | refine bQS ?_ GE522.out) | exact HB.out)⟩
   ·replace c12 := Bool.eq_false_iff.mpr c12
    subst c12
    have H1 : (if t526 = 0 then ((impl_Field_order.f kj3 a0_0 a0_1 a1).bind fun t528 => (some (t528, 0))) else (some (0, t526))) = some (r1, r2) := by rw [if_neg (show ¬ (false = true) by decide)] at H; exact H
    clear H
    have H := H1
    clear H1
    by_cases c17 : t526 = 0
    ·rw [if_pos c17] at H
     have c17b0 : (t526 == 0) = true := beq_iff_eq.mpr c17
     have c17b1 : (t526 != 0) = false := bne_eq_false_iff_eq.mpr c17
     clear c17
     replace H := Option.bind_eq_some_iff.mp H
     obtain ⟨t528, A180, H⟩ := H
     replace H : (some (t528, 0)) = some (r1, r2) := H
     have A18 := Aq.mk A180
     clear A180
     simp only [Option.some.injEq, Prod.mk.injEq] at H
     obtain ⟨rfl, rfl⟩ := H
     have hcz19_0 : wc.cell? ⟨gb522, 0, none⟩ = some (.int .i64 a0_0) := (kQC BK522.out 0).trans rfl
     have hcz19_1 : wc.cell? ⟨gb522, 1, none⟩ = some (.int .i64 a0_1) := (kQC BK522.out 1).trans rfl
     have hfz19_0 := kQF BK522.out 0
     have hfz19_1 := kQF BK522.out 1
     go_wp2_with (first | ((with_reducible refine gQc (f := 66) rfl ?_); refine goesL_ (some 22) rfl rfl Try.func66 (by kernel_rfl) rfl #[.agg #[.int .i64 a0_0, .int .i64 a0_1], .int .i64 a1] rfl (by (try simp only [List.map_toArray, List.map_cons, List.map_nil]); first | done | rfl | (simp only [List.length_drop, List.length_take]; rfl)) ?_; (with_reducible refine (impl_Field_order.calls kj3 a0_0 a0_1 a1 t528 _ A18.out).mono ?_); rintro e w20 ⟨rfl, hb⟩; refine ⟨_, rfl, ?_⟩; have n0_ := Aq.mk (kQB (g := gb522) (o := .cells #[.int .i64 a0_0, .int .i64 a0_1] 39 (0, 0)) (by (with_reducible repeat (first | refine kQN ?_ _ | refine kQD ?_ | refine kQA ?_ _)); exact BK522.out) hb); have n1_ := Aq.mk (bQT (by repeat (first | (with_reducible first | exact HB.out | apply bQA | apply bQN | apply bQ1 | refine bQS ?_ GE522.out) | exact HB.out)) hb); clear BK522; clear HB; have BK522 := n0_; have HB := n1_; clear n0_ n1_; (try clear hb); (try clear hb2); (try clear hk); (try clear hi)))
     go_ret2
     exact ⟨by first | rfl | (simp [errW_none, errW_some] <;> rfl) | (simp [*, errW_none, errW_some] <;> rfl), by repeat (first | (with_reducible first | exact HB.out | apply bQA | apply bQN | apply bQ1 | refine bQS ?_ GE522.out) | exact HB.out)⟩
    ·rw [if_neg c17] at H
     have c17b0 : (t526 == 0) = false := beq_eq_false_iff_ne.mpr c17
     have c17b1 : (t526 != 0) = true := bne_iff_ne.mpr c17
     simp only [Option.some.injEq, Prod.mk.injEq] at H
     obtain ⟨rfl, rfl⟩ := H
     go_wp2
     go_ret2
     exact ⟨by first | rfl | (simp [errW_none, errW_some] <;> rfl) | (simp [*, errW_none, errW_some] <;> rfl), by repeat (first | (with_reducible first | exact HB.out | apply bQA | apply bQN | apply bQ1 | refine bQS ?_ GE522.out) | exact HB.out)⟩
mutual
def impl_LogIn.j0 : Nat → Int → Int → Int → Bool → Int → Int → Option (Int × Int)
  | 0, _, _, _, _, _, _ => none
  | k + 1, x1, x2, x8, x21, x530000, x530001 => if x21 = true then (impl_LogIn.j1 k x1 x2 4 x530000 x530001) else (impl_LogIn.j1 k x1 x2 x8 x530000 x530001)
def impl_LogIn.j1 : Nat → Int → Int → Int → Int → Int → Option (Int × Int)
  | 0, _, _, _, _, _ => none
  | k + 1, x1, x2, x8, x530000, x530001 => if x8 = 0 then ((impl_Field_count.f x530000 x530001).bind fun t534 => (impl_LogIn.l0 k x1 x2 1 t534 0 x530000 x530001)) else (some (0, x8))
def impl_LogIn.l0 : Nat → Int → Int → Int → Int → Int → Int → Int → Option (Int × Int)
  | 0, _, _, _, _, _, _, _ => none
  | k + 1, x1, x2, x9, x26, x27, x530000, x530001 => if x27 < x26 then (if x9 = x2 then (some (x27, 0)) else ((impl_Field_mul.f k x530000 x530001 x9 x1).bind fun t535 => (impl_LogIn.l0 k x1 x2 t535 x26 (wrap64 (x27 + 1)) x530000 x530001))) else (some (0, 6))
end
def impl_LogIn.f (k : Nat) (a0_0 : Int) (a0_1 : Int) (a1 : Int) (a2 : Int) : Option (Int × Int) := (impl_Field_code.f k a0_0 a0_1 true (([a1, a2] : List Int))).bind fun t533 => (if t533 = 0 then (impl_LogIn.j0 k a1 a2 t533 (a1 == 0) a0_0 a0_1) else (impl_LogIn.j0 k a1 a2 t533 false a0_0 a0_1))
theorem impl_LogIn.mono_l : ∀ k, (∀ y0 y1 y2 y3 y4 y5, LeO (impl_LogIn.j0 k y0 y1 y2 y3 y4 y5) (impl_LogIn.j0 (k + 1) y0 y1 y2 y3 y4 y5)) ∧ (∀ y0 y1 y2 y3 y4, LeO (impl_LogIn.j1 k y0 y1 y2 y3 y4) (impl_LogIn.j1 (k + 1) y0 y1 y2 y3 y4)) ∧ (∀ y0 y1 y2 y3 y4 y5 y6, LeO (impl_LogIn.l0 k y0 y1 y2 y3 y4 y5 y6) (impl_LogIn.l0 (k + 1) y0 y1 y2 y3 y4 y5 y6))
 | 0 => ⟨fun _ _ _ _ _ _ r h => by simp [impl_LogIn.j0] at h, fun _ _ _ _ _ r h => by simp [impl_LogIn.j1] at h, fun _ _ _ _ _ _ _ r h => by simp [impl_LogIn.l0] at h⟩
 | k + 1 => by
  obtain ⟨ih0, ih1, ih2⟩ := impl_LogIn.mono_l k
  refine ⟨?_, ?_, ?_⟩
  ·intro y0 y1 y2 y3 y4 y5
   unfold impl_LogIn.j0
   repeat' first
   | (with_reducible first | exact ih0 _ _ _ _ _ _ | exact ih1 _ _ _ _ _ | exact ih2 _ _ _ _ _ _ _ | exact impl_Field_code.mono _ _ _ _ _ | exact impl_Field_mul.mono _ _ _ _ _ | exact LeO.refl _ | exact LeO.none _ | refine LeO.ite ?_ ?_ | refine LeO.bind ?_ (fun _ => ?_))
   | exact LeO.none _
   | refine LeO.ite ?_ ?_
   | refine LeO.bind ?_ (fun _ => ?_)
  ·intro y0 y1 y2 y3 y4
   unfold impl_LogIn.j1
   repeat' first
   | (with_reducible first | exact ih0 _ _ _ _ _ _ | exact ih1 _ _ _ _ _ | exact ih2 _ _ _ _ _ _ _ | exact impl_Field_code.mono _ _ _ _ _ | exact impl_Field_mul.mono _ _ _ _ _ | exact LeO.refl _ | exact LeO.none _ | refine LeO.ite ?_ ?_ | refine LeO.bind ?_ (fun _ => ?_))
   | exact LeO.none _
   | refine LeO.ite ?_ ?_
   | refine LeO.bind ?_ (fun _ => ?_)
  ·intro y0 y1 y2 y3 y4 y5 y6
   unfold impl_LogIn.l0
   repeat' first
   | (with_reducible first | exact ih0 _ _ _ _ _ _ | exact ih1 _ _ _ _ _ | exact ih2 _ _ _ _ _ _ _ | exact impl_Field_code.mono _ _ _ _ _ | exact impl_Field_mul.mono _ _ _ _ _ | exact LeO.refl _ | exact LeO.none _ | refine LeO.ite ?_ ?_ | refine LeO.bind ?_ (fun _ => ?_))
   | exact LeO.none _
   | refine LeO.ite ?_ ?_
   | refine LeO.bind ?_ (fun _ => ?_)
theorem impl_LogIn.mono : ∀ a0 a1 a2 a3 k, LeO (impl_LogIn.f k a0 a1 a2 a3) (impl_LogIn.f (k + 1) a0 a1 a2 a3) := by
 intro a0 a1 a2 a3 k
 obtain ⟨ih0, ih1, ih2⟩ := impl_LogIn.mono_l k
 unfold impl_LogIn.f
 repeat' first
  | (with_reducible first | exact ih0 _ _ _ _ _ _ | exact ih1 _ _ _ _ _ | exact ih2 _ _ _ _ _ _ _ | exact impl_Field_code.mono _ _ _ _ _ | exact impl_Field_mul.mono _ _ _ _ _ | exact LeO.refl _ | exact LeO.none _ | refine LeO.ite ?_ ?_ | refine LeO.bind ?_ (fun _ => ?_))
  | exact LeO.none _
  | refine LeO.ite ?_ ?_
  | refine LeO.bind ?_ (fun _ => ?_)
set_option maxHeartbeats 8000000 in
set_option maxRecDepth 100000 in
theorem impl_LogIn.calls (k : Nat) (a0_0 : Int) (a0_1 : Int) (a1 : Int) (a2 : Int) (r1 : Int) (r2 : Int) (w : World) (h : impl_LogIn.f k a0_0 a0_1 a1 a2 = some (r1, r2)) :
 Calls Try.prog 28 #[.agg #[.int .i64 a0_0, .int .i64 a0_1], .int .i64 a1, .int .i64 a2] w fun e w' => e = .returned (.tuple #[.int .i64 r1, .int .i64 r2]) ∧ Below w.heap.size w w' := by
 have hu39 := Try.underlying39
 have HB := Aq.mk (Below.refl w.heap.size w)
 have H : ((impl_Field_code.f k a0_0 a0_1 true (([a1, a2] : List Int))).bind fun t533 => (if t533 = 0 then (impl_LogIn.j0 k a1 a2 t533 (a1 == 0) a0_0 a0_1) else (impl_LogIn.j0 k a1 a2 t533 false a0_0 a0_1))) = some (r1, r2) := h
 clear h
 obtain ⟨y530, hy530⟩ : ∃ y_ : List Int, y_ = (([a1, a2] : List Int)) := ⟨_, rfl⟩
 replace H : ((impl_Field_code.f k a0_0 a0_1 true y530).bind fun t533 => (if t533 = 0 then (impl_LogIn.j0 k a1 a2 t533 (a1 == 0) a0_0 a0_1) else (impl_LogIn.j0 k a1 a2 t533 false a0_0 a0_1))) = some (r1, r2) := by first | (rw [hy530]; with_reducible exact H) | (have H2_ := (Option.bind_some _ _).symm.trans H; rw [hy530]; with_reducible exact H2_) | (have H2_ := (Option.bind_some _ _).symm.trans H; with_reducible exact H2_) | with_reducible exact H | (rw [hy530]; exact H) | exact H
 have Ny530 := Aq.mk hy530
 clear hy530
 replace H := Option.bind_eq_some_iff.mp H
 obtain ⟨t533, A40, H⟩ := H
 replace H : (if t533 = 0 then (impl_LogIn.j0 k a1 a2 t533 (a1 == 0) a0_0 a0_1) else (impl_LogIn.j0 k a1 a2 t533 false a0_0 a0_1)) = some (r1, r2) := H
 have A4 := Aq.mk A40
 clear A40
 have HC5 := Aq.mk H
 clear H
 go_enter Try.func28, Try.ntmps28
 go_upto_region 2 with (first | ((with_reducible refine gQd (N := 3) rfl ?_); refine xQe ?hg (N := 3) ?hd (cs := #[.int .i64 a0_0, .int .i64 a0_1]) (t := 39) ?hr ?_; (case hd => rfl); (case hg => rfl); (case hr => first | (go_simp; done) | (go_simp; rfl)); intro gb529 hg w6 hbox hb; have n0_ := Aq.mk (bQT (by repeat (first | (with_reducible first | exact HB.out | apply bQA | apply bQN | apply bQ1) | exact HB.out)) hb); have n1_ := Aq.mk (hbox); have n2_ := Aq.mk ((by rw [hg]; exact (bQZ (by repeat (first | (with_reducible first | exact HB.out | apply bQA | apply bQN | apply bQ1) | exact HB.out))) : w.heap.size ≤ gb529)); have n3_ := Aq.mk ((by rw [hg]; exact (bQZ (by repeat (first | (with_reducible first | exact HB.out | apply bQA | apply bQN | apply bQ1) | exact HB.out))) : w.heap.size ≤ gb529)); clear HB; have HB := n0_; have BK529 := n1_; have GW529 := n2_; have GE529 := n3_; clear n0_ n1_ n2_ n3_; clear hb hbox hg; have hcz7_0 : w6.cell? ⟨gb529, 0, none⟩ = some (.int .i64 a0_0) := (kQC BK529.out 0).trans rfl; have hcz7_1 : w6.cell? ⟨gb529, 1, none⟩ = some (.int .i64 a0_1) := (kQC BK529.out 1).trans rfl; have hfz7_0 := kQF BK529.out 0; have hfz7_1 := kQF BK529.out 1) | ((with_reducible refine gQd (N := 14) rfl ?_); refine Kd.R_lit (Kd.int .i64) _ 2 ?hg (N := 14) ?hd (xs := ([a1, a2] : List Int)) (inner := [.int .i64 a1, .int .i64 a2]) (ok := fun _ => True) (okp := fun _ => True) ?hr ?hp (fun _ hk => hk) trivial (Below.refl _ _) (Nat.le_refl _) (by simp) ?_; (case hd => rfl); (case hg => rfl); (case hr => first | (go_simp; done) | (go_simp; rfl)); (case hp => exact (Reps.one (show Kd.M (Kd.int .i64) _ _ _ a1 [.int .i64 a1] from rfl) (Reps.one (show Kd.M (Kd.int .i64) _ _ _ a2 [.int .i64 a2] from rfl) (Reps.none _ _)))); intro v531 w8 ho9 hb hg_ hnew_; clear hg_ hnew_; (first | rw [← Ny530.out] at ho9 | (simp only [Int.reduceToNat] at ho9; rw [← Ny530.out] at ho9)); have n0_ := Aq.mk (Kd.R_lower ho9 (bQZ (by repeat (first | (with_reducible first | exact HB.out | apply bQA | apply bQN | apply bQ1 | refine bQS ?_ GE529.out) | exact HB.out)))); have n1_ := Aq.mk (kQB (g := gb529) (o := .cells #[.int .i64 a0_0, .int .i64 a0_1] 39 (0, 0)) (by (with_reducible repeat (first | refine kQN ?_ _ | refine kQD ?_ | refine kQA ?_ _)); exact BK529.out) hb); have n2_ := Aq.mk (bQT (by repeat (first | (with_reducible first | exact HB.out | apply bQA | apply bQN | apply bQ1 | refine bQS ?_ GE529.out) | exact HB.out)) hb); clear BK529; clear HB; have HO532 := n0_; have BK529 := n1_; have HB := n2_; clear n0_ n1_ n2_; clear hb ho9; obtain ⟨Ao10, co10, eo10⟩ := Kd.R_slice HO532.out; subst eo10) | ((with_reducible refine gQc (f := 60) rfl ?_); refine goesL_ (some 15) rfl rfl Try.func60 (by kernel_rfl) rfl #[.agg #[.int .i64 a0_0, .int .i64 a0_1], .bool true, .slice Ao10 y530.length co10] rfl (by (try simp only [List.map_toArray, List.map_cons, List.map_nil]); first | done | rfl | (simp only [List.length_drop, List.length_take]; rfl)) ?_; (with_reducible refine (impl_Field_code.calls k a0_0 a0_1 true _ _ y530 t533 _ ?side1 ?side2 A4.out).mono ?_); (case side1 => repeat (first | exact (Kd.R_reads' HO532.out).2.2 | (with_reducible refine Kd.CqA ?_ _) | (with_reducible refine Kd.CqN ?_ _) | (with_reducible refine Kd.CqD ?_))); (case side2 => exact (Kd.R_reads' HO532.out).2.1); rintro e w11 ⟨rfl, hb⟩; refine ⟨_, rfl, ?_⟩; have n0_ := Aq.mk (Kd.R_below (by (with_reducible repeat (first | apply Kd.RqA | apply Kd.RqN | apply Kd.RqD)); exact HO532.out) hb); have n1_ := Aq.mk (kQB (g := gb529) (o := .cells #[.int .i64 a0_0, .int .i64 a0_1] 39 (0, 0)) (by (with_reducible repeat (first | refine kQN ?_ _ | refine kQD ?_ | refine kQA ?_ _)); exact BK529.out) hb); have n2_ := Aq.mk (bQT (by repeat (first | (with_reducible first | exact HB.out | apply bQA | apply bQN | apply bQ1 | refine bQS ?_ GE529.out) | exact HB.out)) hb); clear HO532; clear BK529; clear HB; have HO532 := n0_; have BK529 := n1_; have HB := n2_; clear n0_ n1_ n2_; (try clear hb); (try clear hb2); (try clear hk); (try clear hi)))
 (try simp only [Act.put, qSa, qSb, qSc])
 go_cut [21] (fun v21 wc => ∃ (kq : Nat) (x21_4 : Bool), v21 = .bool x21_4 ∧ Aq (impl_LogIn.j0 kq a1 a2 t533 x21_4 a0_0 a0_1 = some (r1, r2)) ∧ Aq (kq ≤ k) ∧ Aq (wc.heap[gb529]? = some (.cells #[.int .i64 a0_0, .int .i64 a0_1] 39 (0, 0))) ∧ Aq (Below w.heap.size w wc))
 case first =>
  have H := HC5.out
  clear HC5
  by_cases c12 : t533 = 0
  ·rw [if_pos c12] at H
   have c12b0 : (t533 == 0) = true := beq_iff_eq.mpr c12
   have c12b1 : (t533 != 0) = false := bne_eq_false_iff_eq.mpr c12
   clear c12
   (first | rw [c12b0] | (simp only [i64_w, i32_w]; rw [c12b0]) | skip)
   have H' := Aq.mk H
   clear H
   go_wp2
   go_meet
   case rel => exact ⟨_, ((a1 == 0)), (by first | rfl | (simp; done) | (simp [*]; done)), H', ⟨by first | omega | exact Nat.le_refl _⟩, ⟨by (with_reducible repeat (first | refine kQN ?_ _ | refine kQD ?_ | refine kQA ?_ _)); exact BK529.out⟩, ⟨by repeat (first | (with_reducible first | exact HB.out | apply bQA | apply bQN | apply bQ1 | refine bQS ?_ GE529.out) | exact HB.out)⟩⟩
  ·rw [if_neg c12] at H
   have c12b0 : (t533 == 0) = false := beq_eq_false_iff_ne.mpr c12
   have c12b1 : (t533 != 0) = true := bne_iff_ne.mpr c12
   (first | rw [c12b0] | (simp only [i64_w, i32_w]; rw [c12b0]) | skip)
   have H' := Aq.mk H
   clear H
   go_wp2
   go_meet
   case rel => exact ⟨_, (false), (by first | rfl | (simp; done) | (simp [*]; done)), H', ⟨by first | omega | exact Nat.le_refl _⟩, ⟨by (with_reducible repeat (first | refine kQN ?_ _ | refine kQD ?_ | refine kQA ?_ _)); exact BK529.out⟩, ⟨by repeat (first | (with_reducible first | exact HB.out | apply bQA | apply bQN | apply bQ1 | refine bQS ?_ GE529.out) | exact HB.out)⟩⟩
 case rest =>
  clear HC5
  try clear c1
  try clear c2
  try clear p2
  try clear c6
  try clear c12
  try clear c12b0
  try clear c12b1
  try clear hcz7_0
  try clear hcz7_1
  try clear hfz7_0
  try clear hfz7_1
  obtain ⟨kq, x21_4, rfl, HA, HJ4, BK529, HB⟩ := hcut
  cases kq with
  | zero => exact absurd HA.out (by simp [impl_LogIn.j0])
  | succ kj4 =>
   have H := HA.out
   clear HA
   simp only [impl_LogIn.j0] at H
   have HC13 := Aq.mk H
   clear H
   go_upto_if 21 with (fail)
   go_cut [8] (fun v8 wc => ∃ (kq : Nat) (x8_12 : Int), v8 = .int .i64 x8_12 ∧ Aq (impl_LogIn.j1 kq a1 a2 x8_12 a0_0 a0_1 = some (r1, r2)) ∧ Aq (kq ≤ kj4) ∧ Aq (wc.heap[gb529]? = some (.cells #[.int .i64 a0_0, .int .i64 a0_1] 39 (0, 0))) ∧ Aq (Below w.heap.size w wc))
   case first =>
    have H := HC13.out
    clear HC13
    by_cases c14 : x21_4 = true
    ·subst c14
     have H1 : (impl_LogIn.j1 kj4 a1 a2 4 a0_0 a0_1) = some (r1, r2) := by rw [if_pos rfl] at H; exact H
     clear H
     have H := H1
     clear H1
     have H' := Aq.mk H
     clear H
     go_wp2
     go_meet
     case rel => exact ⟨_, (4), (by first | rfl | (simp; done) | (simp [*]; done)), H', ⟨by have := HJ4.out; first | omega | exact Nat.le_refl _⟩, ⟨by (with_reducible repeat (first | refine kQN ?_ _ | refine kQD ?_ | refine kQA ?_ _)); exact BK529.out⟩, ⟨by repeat (first | (with_reducible first | exact HB.out | apply bQA | apply bQN | apply bQ1 | refine bQS ?_ GE529.out) | exact HB.out)⟩⟩
    ·replace c14 := Bool.eq_false_iff.mpr c14
     subst c14
     have H1 : (impl_LogIn.j1 kj4 a1 a2 t533 a0_0 a0_1) = some (r1, r2) := by rw [if_neg (show ¬ (false = true) by decide)] at H; exact H
     clear H
     have H := H1
     clear H1
     have H' := Aq.mk H
     clear H
     go_wp2
     go_meet
     case rel => exact ⟨_, (t533), (by first | rfl | (simp; done) | (simp [*]; done)), H', ⟨by have := HJ4.out; first | omega | exact Nat.le_refl _⟩, ⟨by (with_reducible repeat (first | refine kQN ?_ _ | refine kQD ?_ | refine kQA ?_ _)); exact BK529.out⟩, ⟨by repeat (first | (with_reducible first | exact HB.out | apply bQA | apply bQN | apply bQ1 | refine bQS ?_ GE529.out) | exact HB.out)⟩⟩
   case rest =>
    clear HC13
    try clear c1
    try clear c2
    try clear p2
    try clear c6
    try clear c12
    try clear c12b0
    try clear c12b1
    try clear c14
    try clear hcz7_0
    try clear hcz7_1
    try clear hfz7_0
    try clear hfz7_1
    try clear p2
    obtain ⟨kq, x8_12, rfl, HA, HJ12, BK529, HB⟩ := hcut
    cases kq with
    | zero => exact absurd HA.out (by simp [impl_LogIn.j1])
    | succ kj12 =>
     have H := HA.out
     clear HA
     simp only [impl_LogIn.j1] at H
     by_cases c15 : x8_12 = 0
     ·rw [if_pos c15] at H
      have c15b0 : (x8_12 == 0) = true := beq_iff_eq.mpr c15
      have c15b1 : (x8_12 != 0) = false := bne_eq_false_iff_eq.mpr c15
      clear c15
      replace H := Option.bind_eq_some_iff.mp H
      obtain ⟨t534, A160, H⟩ := H
      replace H : (impl_LogIn.l0 kj12 a1 a2 1 t534 0 a0_0 a0_1) = some (r1, r2) := H
      have A16 := Aq.mk A160
      clear A160
      have H' := Aq.mk H
      clear H
      have hcz17_0 : wc.cell? ⟨gb529, 0, none⟩ = some (.int .i64 a0_0) := (kQC BK529.out 0).trans rfl
      have hcz17_1 : wc.cell? ⟨gb529, 1, none⟩ = some (.int .i64 a0_1) := (kQC BK529.out 1).trans rfl
      have hfz17_0 := kQF BK529.out 0
      have hfz17_1 := kQF BK529.out 1
      go_wp2_with (first | ((with_reducible refine gQc (f := 67) rfl ?_); refine goesL_ (some 26) rfl rfl Try.func67 (by kernel_rfl) rfl #[.agg #[.int .i64 a0_0, .int .i64 a0_1]] rfl (by (try simp only [List.map_toArray, List.map_cons, List.map_nil]); first | done | rfl | (simp only [List.length_drop, List.length_take]; rfl)) ?_; (with_reducible refine (impl_Field_count.calls a0_0 a0_1 t534 _ A16.out).mono ?_); rintro e w18 ⟨rfl, hb⟩; refine ⟨_, rfl, ?_⟩; have n0_ := Aq.mk (kQB (g := gb529) (o := .cells #[.int .i64 a0_0, .int .i64 a0_1] 39 (0, 0)) (by (with_reducible repeat (first | refine kQN ?_ _ | refine kQD ?_ | refine kQA ?_ _)); exact BK529.out) hb); have n1_ := Aq.mk (bQT (by repeat (first | (with_reducible first | exact HB.out | apply bQA | apply bQN | apply bQ1 | refine bQS ?_ GE529.out) | exact HB.out)) hb); clear BK529; clear HB; have BK529 := n0_; have HB := n1_; clear n0_ n1_; (try clear hb); (try clear hb2); (try clear hk); (try clear hi)))
      go_loopg [9, 27] kj12 (fun kq v9 v27 w' => ∃ (x9_3 : Int) (x27_3 : Int), v9 = .int .i64 x9_3 ∧ v27 = .int .i64 x27_3 ∧ Aq (impl_LogIn.l0 kq a1 a2 x9_3 t534 x27_3 a0_0 a0_1 = some (r1, r2)) ∧ Aq (kq ≤ kj12) ∧ Aq (w'.heap[gb529]? = some (.cells #[.int .i64 a0_0, .int .i64 a0_1] 39 (0, 0))) ∧ Aq (Below w.heap.size w w'))
      case atStart => exact ⟨(1), (0), (by first | rfl | (simp; done) | (simp [*]; done)), (by first | rfl | (simp; done) | (simp [*]; done)), H', ⟨Nat.le_refl _⟩, ⟨by (with_reducible repeat (first | refine kQN ?_ _ | refine kQD ?_ | refine kQA ?_ _)); exact BK529.out⟩, ⟨by repeat (first | (with_reducible first | exact HB.out | apply bQA | apply bQN | apply bQ1 | refine bQS ?_ GE529.out) | exact HB.out)⟩⟩
      case round =>
       clear H'
       try clear c1
       try clear c2
       try clear p2
       try clear c6
       try clear c12
       try clear c12b0
       try clear c12b1
       try clear c14
       try clear c15
       try clear c15b0
       try clear c15b1
       try clear hcz17_0
       try clear hcz17_1
       try clear hcz7_0
       try clear hcz7_1
       try clear hfz17_0
       try clear hfz17_1
       try clear hfz7_0
       try clear hfz7_1
       try clear p2
       obtain ⟨x9_3, x27_3, rfl, rfl, HA, HK3, BK529, HB⟩ := hrel
       cases gk with
       | zero => exact absurd HA.out (by simp [impl_LogIn.l0])
       | succ k3 =>
        have H := HA.out
        clear HA
        simp only [impl_LogIn.l0] at H
        by_cases c19 : x27_3 < t534
        ·rw [if_pos c19] at H
         have c19b0 : decide (x27_3 < t534) = true := decide_eq_true c19
         clear c19
         by_cases c20 : x9_3 = a2
         ·rw [if_pos c20] at H
          have c20b0 : (x9_3 == a2) = true := beq_iff_eq.mpr c20
          have c20b1 : (x9_3 != a2) = false := bne_eq_false_iff_eq.mpr c20
          clear c20
          simp only [Option.some.injEq, Prod.mk.injEq] at H
          obtain ⟨rfl, rfl⟩ := H
          go_wp2
          go_ret2
          exact ⟨by first | rfl | (simp [errW_none, errW_some] <;> rfl) | (simp [*, errW_none, errW_some] <;> rfl), by repeat (first | (with_reducible first | exact HB.out | apply bQA | apply bQN | apply bQ1 | refine bQS ?_ GE529.out) | exact HB.out)⟩
         ·rw [if_neg c20] at H
          have c20b0 : (x9_3 == a2) = false := beq_eq_false_iff_ne.mpr c20
          have c20b1 : (x9_3 != a2) = true := bne_iff_ne.mpr c20
          replace H := Option.bind_eq_some_iff.mp H
          obtain ⟨t535, A210, H⟩ := H
          replace H : (impl_LogIn.l0 k3 a1 a2 t535 t534 (wrap64 (x27_3 + 1)) a0_0 a0_1) = some (r1, r2) := H
          have A21 := Aq.mk A210
          clear A210
          have H' := Aq.mk H
          clear H
          have hcz22_0 : wr.cell? ⟨gb529, 0, none⟩ = some (.int .i64 a0_0) := (kQC BK529.out 0).trans rfl
          have hcz22_1 : wr.cell? ⟨gb529, 1, none⟩ = some (.int .i64 a0_1) := (kQC BK529.out 1).trans rfl
          have hfz22_0 := kQF BK529.out 0
          have hfz22_1 := kQF BK529.out 1
          go_wp2_with (first | ((with_reducible refine gQc (f := 63) rfl ?_); refine goesL_ (some 37) rfl rfl Try.func63 (by kernel_rfl) rfl #[.agg #[.int .i64 a0_0, .int .i64 a0_1], .int .i64 x9_3, .int .i64 a1] rfl (by (try simp only [List.map_toArray, List.map_cons, List.map_nil]); first | done | rfl | (simp only [List.length_drop, List.length_take]; rfl)) ?_; (with_reducible refine (impl_Field_mul.calls k3 a0_0 a0_1 x9_3 a1 t535 _ A21.out).mono ?_); rintro e w23 ⟨rfl, hb⟩; refine ⟨_, rfl, ?_⟩; have n0_ := Aq.mk (kQB (g := gb529) (o := .cells #[.int .i64 a0_0, .int .i64 a0_1] 39 (0, 0)) (by (with_reducible repeat (first | refine kQN ?_ _ | refine kQD ?_ | refine kQA ?_ _)); exact BK529.out) hb); have n1_ := Aq.mk (bQT (by repeat (first | (with_reducible first | exact HB.out | apply bQA | apply bQN | apply bQ1 | refine bQS ?_ GE529.out) | exact HB.out)) hb); clear BK529; clear HB; have BK529 := n0_; have HB := n1_; clear n0_ n1_; (try clear hb); (try clear hb2); (try clear hk); (try clear hi)))
          go_roundg k3
          case measure => have := HJ4.out; have := HJ12.out; have := HK3.out; omega
          case rel => exact ⟨(t535), (wrap64 (x27_3 + 1)), (by first | rfl | (simp; done) | (simp [*]; done)), (by first | rfl | (simp; done) | (simp [*]; done)), H', ⟨by have := HJ4.out; have := HJ12.out; have := HK3.out; omega⟩, ⟨by (with_reducible repeat (first | refine kQN ?_ _ | refine kQD ?_ | refine kQA ?_ _)); exact BK529.out⟩, ⟨by repeat (first | (with_reducible first | exact HB.out | apply bQA | apply bQN | apply bQ1 | refine bQS ?_ GE529.out) | exact HB.out)⟩⟩
        ·rw [if_neg c19] at H
         have c19b0 : decide (x27_3 < t534) = false := decide_eq_false c19
         clear c19
         simp only [Option.some.injEq, Prod.mk.injEq] at H
         obtain ⟨rfl, rfl⟩ := H
         go_wp2
         go_ret2
         exact ⟨by first | rfl | (simp [errW_none, errW_some] <;> rfl) | (simp [*, errW_none, errW_some] <;> rfl), by repeat (first | (with_reducible first | exact HB.out | apply bQA | apply bQN | apply bQ1 | refine bQS ?_ GE529.out) | exact HB.out)⟩
     ·rw [if_neg c15] at H
      have c15b0 : (x8_12 == 0) = false := beq_eq_false_iff_ne.mpr c15
      have c15b1 : (x8_12 != 0) = true := bne_iff_ne.mpr c15
      simp only [Option.some.injEq, Prod.mk.injEq] at H
      obtain ⟨rfl, rfl⟩ := H
      go_wp2
      go_ret2
      exact ⟨by first | rfl | (simp [errW_none, errW_some] <;> rfl) | (simp [*, errW_none, errW_some] <;> rfl), by repeat (first | (with_reducible first | exact HB.out | apply bQA | apply bQN | apply bQ1 | refine bQS ?_ GE529.out) | exact HB.out)⟩
end Go.Proofs.Ytljcjoodnkdljaa.P
