/- Functions of the program and what they tell, as the printing program wrote it. -/
import Derived.Test.YtbaicdgkpnbipaaPx0
import Derived.Test.YtbaicdgkpnbipaaPx5
import Derived.Test.YtbaicdgkpnbipaaPx27
import Derived.Test.YtbaicdgkpnbipaaPx42
namespace Go.Proofs.Ytbaicdgkpnbipaa.P
open Go.Shelf Go.RowKit Go.Proofs.YtbaicdgkpnbipaaW.PrintWords Go.Proofs.YtbaicdgkpnbipaaW.PrintLast Go.Proofs.YtbaicdgkpnbipaaW.PrintMore
attribute [local go_sem] max2_int min2_int max_two min_two max_three min_three max_four min_four
set_option linter.unusedVariables false
set_option linter.unusedSimpArgs false
def laws_FnExactContains.j0 : Nat → Bool → Int → List Int → Int → List Int → Int → List Int → Int → List Int → Option (Bool)
  | 0, _, _, _, _, _, _, _, _, _ => none
  | k + 1, x47, x635000, x635001, x636000, x636001, x653000, x653001, x658000, x658001 => if x47 = true then (some false) else ((laws_toMatrix.f k x635000 x635001).bind fun bt660 => ((laws_eqMatrix.f k x653000 x653001 bt660.1 bt660.2).bind fun t664 => (if t664 = true then ((laws_toMatrix.f k x636000 x636001).bind fun bt665 => ((laws_eqMatrix.f k x658000 x658001 bt665.1 bt665.2).bind fun t669 => (if t669 = true then (some true) else (some false)))) else (some false))))
def laws_FnExactContains.f (k : Nat) (a0_0 : Int) (l0_1 : List Int) (a1_0 : Int) (l1_1 : List Int) : Option (Bool) := (laws_szMatrix.f a0_0 l0_1 1048576).bind fun t636 => (if t636 < 0 then (some true) else ((laws_szMatrix.f a1_0 l1_1 t636).bind fun t637 => (if t637 < 0 then (some true) else ((laws_toMatrix.f k a0_0 l0_1).bind fun bt638 => ((laws_toMatrix.f k a1_0 l1_1).bind fun bt642 => ((spec_Contains.f k bt638.1 bt638.2 bt642.1 bt642.2).bind fun bt646 => ((laws_toMatrix.f k a0_0 l0_1).bind fun bt648 => ((laws_toMatrix.f k a1_0 l1_1).bind fun bt653 => ((impl_Contains.f k bt648.1 bt648.2 bt653.1 bt653.2).bind fun bt658 => (if (bt658.1 != bt646.1) = true then (laws_FnExactContains.j0 k true a0_0 l0_1 a1_0 l1_1 bt648.1 bt648.2 bt653.1 bt653.2) else (laws_FnExactContains.j0 k (bt658.2 != bt646.2) a0_0 l0_1 a1_0 l1_1 bt648.1 bt648.2 bt653.1 bt653.2)))))))))))
theorem laws_FnExactContains.mono_l : ∀ k, (∀ y0 y1 y2 y3 y4 y5 y6 y7 y8, LeO (laws_FnExactContains.j0 k y0 y1 y2 y3 y4 y5 y6 y7 y8) (laws_FnExactContains.j0 (k + 1) y0 y1 y2 y3 y4 y5 y6 y7 y8))
 | 0 => fun _ _ _ _ _ _ _ _ _ r h => by simp [laws_FnExactContains.j0] at h
 | k + 1 => by
  have ih0 := laws_FnExactContains.mono_l k
  ·intro y0 y1 y2 y3 y4 y5 y6 y7 y8
   unfold laws_FnExactContains.j0
   repeat' first
   | (with_reducible first | exact ih0 _ _ _ _ _ _ _ _ _ | exact impl_Contains.mono _ _ _ _ _ | exact laws_eqMatrix.mono _ _ _ _ _ | exact laws_toMatrix.mono _ _ _ | exact spec_Contains.mono _ _ _ _ _ | exact LeO.refl _ | exact LeO.none _ | refine LeO.ite ?_ ?_ | refine LeO.bind ?_ (fun _ => ?_))
   | exact LeO.none _
   | refine LeO.ite ?_ ?_
   | refine LeO.bind ?_ (fun _ => ?_)
theorem laws_FnExactContains.mono : ∀ a0 a1 a2 a3 k, LeO (laws_FnExactContains.f k a0 a1 a2 a3) (laws_FnExactContains.f (k + 1) a0 a1 a2 a3) := by
 intro a0 a1 a2 a3 k
 have ih0 := laws_FnExactContains.mono_l k
 unfold laws_FnExactContains.f
 repeat' first
  | (with_reducible first | exact ih0 _ _ _ _ _ _ _ _ _ | exact impl_Contains.mono _ _ _ _ _ | exact laws_eqMatrix.mono _ _ _ _ _ | exact laws_toMatrix.mono _ _ _ | exact spec_Contains.mono _ _ _ _ _ | exact LeO.refl _ | exact LeO.none _ | refine LeO.ite ?_ ?_ | refine LeO.bind ?_ (fun _ => ?_))
  | exact LeO.none _
  | refine LeO.ite ?_ ?_
  | refine LeO.bind ?_ (fun _ => ?_)
def laws_FnExactContains.T8 : Bool × List (List Nat × List Nat) := (true, [([], []), ([0], [0]), ([], []), ([2, 1], [2]), ([1, 3, 3], [1, 3]), ([4], [4]), ([5], [5]), ([5], [5]), ([6, 4, 0, 1, 2, 3, 4, 5, 6], [6]), ([7, 8, 0, 1, 2, 3, 4, 5, 6, 7, 8], [7])])
def laws_FnExactContains.B8 : List Nat := [0, 1, 0, 7, 15, 31, 63, 63, 127, 511]
theorem laws_FnExactContains.tab8 : rtab .any (opsOf Try.f6 8) = laws_FnExactContains.T8 := by kernel_rfl
theorem laws_FnExactContains.bits8 : waitsOk laws_FnExactContains.T8.2 laws_FnExactContains.B8 = true := by kernel_rfl
set_option maxHeartbeats 8000000 in
set_option maxRecDepth 100000 in
theorem laws_FnExactContains.calls (k : Nat) (a0_0 : Int) (A0_1 : Option Addr) (c0_1 : Nat) (l0_1 : List Int) (a1_0 : Int) (A1_1 : Option Addr) (c1_1 : Nat) (l1_1 : List Int) (r : Bool) (w : World) (hr0_1 : Kd.C (Kd.int .i64) w A0_1 l0_1.length l0_1) (hc0_1 : l0_1.length ≤ c0_1) (hr1_1 : Kd.C (Kd.int .i64) w A1_1 l1_1.length l1_1) (hc1_1 : l1_1.length ≤ c1_1) (h : laws_FnExactContains.f k a0_0 l0_1 a1_0 l1_1 = some r) :
 Calls Try.prog 6 #[.agg #[.int .i64 a0_0, .slice A0_1 l0_1.length c0_1], .agg #[.int .i64 a1_0, .slice A1_1 l1_1.length c1_1]] w fun e w' => e = .returned (.bool r) ∧ Below w.heap.size w w' := by
 have hu24 := Try.underlying24
 have hu26 := Try.underlying26
 have HR0_1 := Aq.mk hr0_1
 have HC0_1 := Aq.mk hc0_1
 clear hr0_1 hc0_1
 have HR1_1 := Aq.mk hr1_1
 have HC1_1 := Aq.mk hc1_1
 clear hr1_1 hc1_1
 have HB := Aq.mk (Below.refl w.heap.size w)
 have H : ((laws_szMatrix.f a0_0 l0_1 1048576).bind fun t636 => (if t636 < 0 then (some true) else ((laws_szMatrix.f a1_0 l1_1 t636).bind fun t637 => (if t637 < 0 then (some true) else ((laws_toMatrix.f k a0_0 l0_1).bind fun bt638 => ((laws_toMatrix.f k a1_0 l1_1).bind fun bt642 => ((spec_Contains.f k bt638.1 bt638.2 bt642.1 bt642.2).bind fun bt646 => ((laws_toMatrix.f k a0_0 l0_1).bind fun bt648 => ((laws_toMatrix.f k a1_0 l1_1).bind fun bt653 => ((impl_Contains.f k bt648.1 bt648.2 bt653.1 bt653.2).bind fun bt658 => (if (bt658.1 != bt646.1) = true then (laws_FnExactContains.j0 k true a0_0 l0_1 a1_0 l1_1 bt648.1 bt648.2 bt653.1 bt653.2) else (laws_FnExactContains.j0 k (bt658.2 != bt646.2) a0_0 l0_1 a1_0 l1_1 bt648.1 bt648.2 bt653.1 bt653.2)))))))))))) = some r := h
 clear h
 replace H := Option.bind_eq_some_iff.mp H
 obtain ⟨t636, A30, H⟩ := H
 replace H : (if t636 < 0 then (some true) else ((laws_szMatrix.f a1_0 l1_1 t636).bind fun t637 => (if t637 < 0 then (some true) else ((laws_toMatrix.f k a0_0 l0_1).bind fun bt638 => ((laws_toMatrix.f k a1_0 l1_1).bind fun bt642 => ((spec_Contains.f k bt638.1 bt638.2 bt642.1 bt642.2).bind fun bt646 => ((laws_toMatrix.f k a0_0 l0_1).bind fun bt648 => ((laws_toMatrix.f k a1_0 l1_1).bind fun bt653 => ((impl_Contains.f k bt648.1 bt648.2 bt653.1 bt653.2).bind fun bt658 => (if (bt658.1 != bt646.1) = true then (laws_FnExactContains.j0 k true a0_0 l0_1 a1_0 l1_1 bt648.1 bt648.2 bt653.1 bt653.2) else (laws_FnExactContains.j0 k (bt658.2 != bt646.2) a0_0 l0_1 a1_0 l1_1 bt648.1 bt648.2 bt653.1 bt653.2))))))))))) = some r := H
 have A3 := Aq.mk A30
 clear A30
 by_cases c4 : t636 < 0
 ·rw [if_pos c4] at H
  have c4b0 : decide (t636 < 0) = true := decide_eq_true c4
  clear c4
  obtain rfl := Option.some.inj H
  go_enter Try.func6, Try.ntmps6
  go_wp2_with (first | ((with_reducible refine gQd (N := 2) rfl ?_); refine xQe ?hg (N := 2) ?hd (cs := #[.int .i64 a0_0, .slice A0_1 l0_1.length c0_1]) (t := 24) ?hr ?_; (case hd => rfl); (case hg => rfl); (case hr => first | (go_simp; done) | (go_simp; rfl)); intro gb634 hg w5 hbox hb; have n0_ := Aq.mk (bQT (by repeat (first | (with_reducible first | exact HB.out | apply bQA | apply bQN | apply bQ1) | exact HB.out)) hb); have n1_ := Aq.mk (hbox); have n2_ := Aq.mk ((by rw [hg]; exact (bQZ (by repeat (first | (with_reducible first | exact HB.out | apply bQA | apply bQN | apply bQ1) | exact HB.out))) : w.heap.size ≤ gb634)); have n3_ := Aq.mk ((by rw [hg]; exact (bQZ (by repeat (first | (with_reducible first | exact HB.out | apply bQA | apply bQN | apply bQ1) | exact HB.out))) : w.heap.size ≤ gb634)); clear HB; have HB := n0_; have BK634 := n1_; have GW634 := n2_; have GE634 := n3_; clear n0_ n1_ n2_ n3_; clear hb hbox hg) | ((with_reducible refine gQd (N := 3) rfl ?_); refine xQe ?hg (N := 3) ?hd (cs := #[.int .i64 a1_0, .slice A1_1 l1_1.length c1_1]) (t := 24) ?hr ?_; (case hd => rfl); (case hg => rfl); (case hr => first | (go_simp; done) | (go_simp; rfl)); intro gb635 hg w6 hbox hb; have n0_ := Aq.mk (kQB (g := gb634) (o := .cells #[.int .i64 a0_0, .slice A0_1 l0_1.length c0_1] 24 (0, 0)) (by (with_reducible repeat (first | refine kQN ?_ _ | refine kQD ?_ | refine kQA ?_ _)); exact BK634.out) hb); have n1_ := Aq.mk (bQT (by repeat (first | (with_reducible first | exact HB.out | apply bQA | apply bQN | apply bQ1 | refine bQS ?_ GE634.out) | exact HB.out)) hb); have n2_ := Aq.mk (hbox); have n3_ := Aq.mk ((by rw [hg]; exact (bQZ (by repeat (first | (with_reducible first | exact HB.out | apply bQA | apply bQN | apply bQ1 | refine bQS ?_ GE634.out) | exact HB.out))) : w.heap.size ≤ gb635)); have n4_ := Aq.mk ((by rw [hg]; exact (bQZ (by repeat (first | (with_reducible first | exact HB.out | apply bQA | apply bQN | apply bQ1 | refine bQS ?_ GE634.out) | exact HB.out))) : w.heap.size ≤ gb635)); have n5_ := Aq.mk ((by rw [hg]; exact Nat.ne_of_lt (blk_lt (g := gb634) (o := .cells #[.int .i64 a0_0, .slice A0_1 l0_1.length c0_1] 24 (0, 0)) (by (with_reducible repeat (first | refine kQN ?_ _ | refine kQD ?_ | refine kQA ?_ _)); exact BK634.out)) : gb634 ≠ gb635)); have n6_ := Aq.mk ((by rw [hg]; exact Nat.ne_of_gt (blk_lt (g := gb634) (o := .cells #[.int .i64 a0_0, .slice A0_1 l0_1.length c0_1] 24 (0, 0)) (by (with_reducible repeat (first | refine kQN ?_ _ | refine kQD ?_ | refine kQA ?_ _)); exact BK634.out)) : gb635 ≠ gb634)); clear BK634; clear HB; have BK634 := n0_; have HB := n1_; have BK635 := n2_; have GW635 := n3_; have GE635 := n4_; have NB634_635 := n5_; have NB635_634 := n6_; clear n0_ n1_ n2_ n3_ n4_ n5_ n6_; clear hb hbox hg; have hnb7 := NB634_635.out; have hnc7 := NB635_634.out; have hcz8_0 : w6.cell? ⟨gb634, 0, none⟩ = some (.int .i64 a0_0) := (kQC BK634.out 0).trans rfl; have hcz8_1 : w6.cell? ⟨gb634, 1, none⟩ = some (.slice A0_1 l0_1.length c0_1) := (kQC BK634.out 1).trans rfl; have hfz8_0 := kQF BK634.out 0; have hfz8_1 := kQF BK634.out 1) | ((with_reducible refine gQc (f := 15) rfl ?_); refine goesL_ (some 14) rfl rfl Try.func15 (by kernel_rfl) rfl #[.agg #[.int .i64 a0_0, .slice A0_1 l0_1.length c0_1], .int .i64 1048576] rfl (by (try simp only [List.map_toArray, List.map_cons, List.map_nil]); first | done | rfl | (simp only [List.length_drop, List.length_take]; rfl)) ?_; (with_reducible refine (laws_szMatrix.calls a0_0 _ _ l0_1 1048576 t636 _ ?side1 ?side2 A3.out).mono ?_); (case side1 => repeat (first | exact (Kd.C_below HR0_1.out HB.out) | (with_reducible refine Kd.CqA ?_ _) | (with_reducible refine Kd.CqN ?_ _) | (with_reducible refine Kd.CqD ?_))); (case side2 => exact HC0_1.out); rintro e w9 ⟨rfl, hb⟩; refine ⟨_, rfl, ?_⟩; have n0_ := Aq.mk (kQB (g := gb634) (o := .cells #[.int .i64 a0_0, .slice A0_1 l0_1.length c0_1] 24 (0, 0)) (by (with_reducible repeat (first | refine kQN ?_ _ | refine kQD ?_ | refine kQA ?_ _)); exact BK634.out) hb); have n1_ := Aq.mk (kQB (g := gb635) (o := .cells #[.int .i64 a1_0, .slice A1_1 l1_1.length c1_1] 24 (0, 0)) (by (with_reducible repeat (first | refine kQN ?_ _ | refine kQD ?_ | refine kQA ?_ _)); exact BK635.out) hb); have n2_ := Aq.mk (bQT (by repeat (first | (with_reducible first | exact HB.out | apply bQA | apply bQN | apply bQ1 | refine bQS ?_ GE634.out | refine bQS ?_ GE635.out) | exact HB.out)) hb); clear BK634; clear BK635; clear HB; have BK634 := n0_; have BK635 := n1_; have HB := n2_; clear n0_ n1_ n2_; (try clear hb); (try clear hb2); (try clear hk); (try clear hi)))
  go_ret
  exact ⟨by first | rfl | (simp [errW_none, errW_some] <;> rfl) | (simp [*, errW_none, errW_some] <;> rfl), by repeat (first | (with_reducible first | exact HB.out | apply bQA | apply bQN | apply bQ1 | refine bQS ?_ GE634.out | refine bQS ?_ GE635.out) | exact HB.out)⟩
 ·rw [if_neg c4] at H
  have c4b0 : decide (t636 < 0) = false := decide_eq_false c4
  clear c4
  replace H := Option.bind_eq_some_iff.mp H
  obtain ⟨t637, A100, H⟩ := H
  replace H : (if t637 < 0 then (some true) else ((laws_toMatrix.f k a0_0 l0_1).bind fun bt638 => ((laws_toMatrix.f k a1_0 l1_1).bind fun bt642 => ((spec_Contains.f k bt638.1 bt638.2 bt642.1 bt642.2).bind fun bt646 => ((laws_toMatrix.f k a0_0 l0_1).bind fun bt648 => ((laws_toMatrix.f k a1_0 l1_1).bind fun bt653 => ((impl_Contains.f k bt648.1 bt648.2 bt653.1 bt653.2).bind fun bt658 => (if (bt658.1 != bt646.1) = true then (laws_FnExactContains.j0 k true a0_0 l0_1 a1_0 l1_1 bt648.1 bt648.2 bt653.1 bt653.2) else (laws_FnExactContains.j0 k (bt658.2 != bt646.2) a0_0 l0_1 a1_0 l1_1 bt648.1 bt648.2 bt653.1 bt653.2))))))))) = some r := H
  have A10 := Aq.mk A100
  clear A100
  by_cases c11 : t637 < 0
  ·rw [if_pos c11] at H
   have c11b0 : decide (t637 < 0) = true := decide_eq_true c11
   clear c11
   obtain rfl := Option.some.inj H
   go_enter Try.func6, Try.ntmps6
   go_wp2_with (first | ((with_reducible refine gQd (N := 2) rfl ?_); refine xQe ?hg (N := 2) ?hd (cs := #[.int .i64 a0_0, .slice A0_1 l0_1.length c0_1]) (t := 24) ?hr ?_; (case hd => rfl); (case hg => rfl); (case hr => first | (go_simp; done) | (go_simp; rfl)); intro gb634 hg w12 hbox hb; have n0_ := Aq.mk (bQT (by repeat (first | (with_reducible first | exact HB.out | apply bQA | apply bQN | apply bQ1) | exact HB.out)) hb); have n1_ := Aq.mk (hbox); have n2_ := Aq.mk ((by rw [hg]; exact (bQZ (by repeat (first | (with_reducible first | exact HB.out | apply bQA | apply bQN | apply bQ1) | exact HB.out))) : w.heap.size ≤ gb634)); have n3_ := Aq.mk ((by rw [hg]; exact (bQZ (by repeat (first | (with_reducible first | exact HB.out | apply bQA | apply bQN | apply bQ1) | exact HB.out))) : w.heap.size ≤ gb634)); clear HB; have HB := n0_; have BK634 := n1_; have GW634 := n2_; have GE634 := n3_; clear n0_ n1_ n2_ n3_; clear hb hbox hg) | ((with_reducible refine gQd (N := 3) rfl ?_); refine xQe ?hg (N := 3) ?hd (cs := #[.int .i64 a1_0, .slice A1_1 l1_1.length c1_1]) (t := 24) ?hr ?_; (case hd => rfl); (case hg => rfl); (case hr => first | (go_simp; done) | (go_simp; rfl)); intro gb635 hg w13 hbox hb; have n0_ := Aq.mk (kQB (g := gb634) (o := .cells #[.int .i64 a0_0, .slice A0_1 l0_1.length c0_1] 24 (0, 0)) (by (with_reducible repeat (first | refine kQN ?_ _ | refine kQD ?_ | refine kQA ?_ _)); exact BK634.out) hb); have n1_ := Aq.mk (bQT (by repeat (first | (with_reducible first | exact HB.out | apply bQA | apply bQN | apply bQ1 | refine bQS ?_ GE634.out) | exact HB.out)) hb); have n2_ := Aq.mk (hbox); have n3_ := Aq.mk ((by rw [hg]; exact (bQZ (by repeat (first | (with_reducible first | exact HB.out | apply bQA | apply bQN | apply bQ1 | refine bQS ?_ GE634.out) | exact HB.out))) : w.heap.size ≤ gb635)); have n4_ := Aq.mk ((by rw [hg]; exact (bQZ (by repeat (first | (with_reducible first | exact HB.out | apply bQA | apply bQN | apply bQ1 | refine bQS ?_ GE634.out) | exact HB.out))) : w.heap.size ≤ gb635)); have n5_ := Aq.mk ((by rw [hg]; exact Nat.ne_of_lt (blk_lt (g := gb634) (o := .cells #[.int .i64 a0_0, .slice A0_1 l0_1.length c0_1] 24 (0, 0)) (by (with_reducible repeat (first | refine kQN ?_ _ | refine kQD ?_ | refine kQA ?_ _)); exact BK634.out)) : gb634 ≠ gb635)); have n6_ := Aq.mk ((by rw [hg]; exact Nat.ne_of_gt (blk_lt (g := gb634) (o := .cells #[.int .i64 a0_0, .slice A0_1 l0_1.length c0_1] 24 (0, 0)) (by (with_reducible repeat (first | refine kQN ?_ _ | refine kQD ?_ | refine kQA ?_ _)); exact BK634.out)) : gb635 ≠ gb634)); clear BK634; clear HB; have BK634 := n0_; have HB := n1_; have BK635 := n2_; have GW635 := n3_; have GE635 := n4_; have NB634_635 := n5_; have NB635_634 := n6_; clear n0_ n1_ n2_ n3_ n4_ n5_ n6_; clear hb hbox hg; have hnb14 := NB634_635.out; have hnc14 := NB635_634.out; have hcz15_0 : w13.cell? ⟨gb634, 0, none⟩ = some (.int .i64 a0_0) := (kQC BK634.out 0).trans rfl; have hcz15_1 : w13.cell? ⟨gb634, 1, none⟩ = some (.slice A0_1 l0_1.length c0_1) := (kQC BK634.out 1).trans rfl; have hfz15_0 := kQF BK634.out 0; have hfz15_1 := kQF BK634.out 1) | ((with_reducible refine gQc (f := 15) rfl ?_); refine goesL_ (some 14) rfl rfl Try.func15 (by kernel_rfl) rfl #[.agg #[.int .i64 a0_0, .slice A0_1 l0_1.length c0_1], .int .i64 1048576] rfl (by (try simp only [List.map_toArray, List.map_cons, List.map_nil]); first | done | rfl | (simp only [List.length_drop, List.length_take]; rfl)) ?_; (with_reducible refine (laws_szMatrix.calls a0_0 _ _ l0_1 1048576 t636 _ ?side1 ?side2 A3.out).mono ?_); (case side1 => repeat (first | exact (Kd.C_below HR0_1.out HB.out) | (with_reducible refine Kd.CqA ?_ _) | (with_reducible refine Kd.CqN ?_ _) | (with_reducible refine Kd.CqD ?_))); (case side2 => exact HC0_1.out); rintro e w16 ⟨rfl, hb⟩; refine ⟨_, rfl, ?_⟩; have n0_ := Aq.mk (kQB (g := gb634) (o := .cells #[.int .i64 a0_0, .slice A0_1 l0_1.length c0_1] 24 (0, 0)) (by (with_reducible repeat (first | refine kQN ?_ _ | refine kQD ?_ | refine kQA ?_ _)); exact BK634.out) hb); have n1_ := Aq.mk (kQB (g := gb635) (o := .cells #[.int .i64 a1_0, .slice A1_1 l1_1.length c1_1] 24 (0, 0)) (by (with_reducible repeat (first | refine kQN ?_ _ | refine kQD ?_ | refine kQA ?_ _)); exact BK635.out) hb); have n2_ := Aq.mk (bQT (by repeat (first | (with_reducible first | exact HB.out | apply bQA | apply bQN | apply bQ1 | refine bQS ?_ GE634.out | refine bQS ?_ GE635.out) | exact HB.out)) hb); clear BK634; clear BK635; clear HB; have BK634 := n0_; have BK635 := n1_; have HB := n2_; clear n0_ n1_ n2_; (try clear hb); (try clear hb2); (try clear hk); (try clear hi); have hcz17_0 : w16.cell? ⟨gb635, 0, none⟩ = some (.int .i64 a1_0) := (kQC BK635.out 0).trans rfl; have hcz17_1 : w16.cell? ⟨gb635, 1, none⟩ = some (.slice A1_1 l1_1.length c1_1) := (kQC BK635.out 1).trans rfl; have hfz17_0 := kQF BK635.out 0; have hfz17_1 := kQF BK635.out 1) | ((with_reducible refine gQc (f := 15) rfl ?_); refine goesL_ (some 19) rfl rfl Try.func15 (by kernel_rfl) rfl #[.agg #[.int .i64 a1_0, .slice A1_1 l1_1.length c1_1], .int .i64 t636] rfl (by (try simp only [List.map_toArray, List.map_cons, List.map_nil]); first | done | rfl | (simp only [List.length_drop, List.length_take]; rfl)) ?_; (with_reducible refine (laws_szMatrix.calls a1_0 _ _ l1_1 t636 t637 _ ?side1 ?side2 A10.out).mono ?_); (case side1 => repeat (first | exact (Kd.C_below HR1_1.out HB.out) | (with_reducible refine Kd.CqA ?_ _) | (with_reducible refine Kd.CqN ?_ _) | (with_reducible refine Kd.CqD ?_))); (case side2 => exact HC1_1.out); rintro e w18 ⟨rfl, hb⟩; refine ⟨_, rfl, ?_⟩; have n0_ := Aq.mk (kQB (g := gb634) (o := .cells #[.int .i64 a0_0, .slice A0_1 l0_1.length c0_1] 24 (0, 0)) (by (with_reducible repeat (first | refine kQN ?_ _ | refine kQD ?_ | refine kQA ?_ _)); exact BK634.out) hb); have n1_ := Aq.mk (kQB (g := gb635) (o := .cells #[.int .i64 a1_0, .slice A1_1 l1_1.length c1_1] 24 (0, 0)) (by (with_reducible repeat (first | refine kQN ?_ _ | refine kQD ?_ | refine kQA ?_ _)); exact BK635.out) hb); have n2_ := Aq.mk (bQT (by repeat (first | (with_reducible first | exact HB.out | apply bQA | apply bQN | apply bQ1 | refine bQS ?_ GE634.out | refine bQS ?_ GE635.out) | exact HB.out)) hb); clear BK634; clear BK635; clear HB; have BK634 := n0_; have BK635 := n1_; have HB := n2_; clear n0_ n1_ n2_; (try clear hb); (try clear hb2); (try clear hk); (try clear hi)))
   go_ret
   exact ⟨by first | rfl | (simp [errW_none, errW_some] <;> rfl) | (simp [*, errW_none, errW_some] <;> rfl), by repeat (first | (with_reducible first | exact HB.out | apply bQA | apply bQN | apply bQ1 | refine bQS ?_ GE634.out | refine bQS ?_ GE635.out) | exact HB.out)⟩
  ·rw [if_neg c11] at H
   have c11b0 : decide (t637 < 0) = false := decide_eq_false c11
   clear c11
   replace H := Option.bind_eq_some_iff.mp H
   obtain ⟨⟨t638, t639⟩, A190, H⟩ := H
   replace H : ((laws_toMatrix.f k a1_0 l1_1).bind fun bt642 => ((spec_Contains.f k t638 t639 bt642.1 bt642.2).bind fun bt646 => ((laws_toMatrix.f k a0_0 l0_1).bind fun bt648 => ((laws_toMatrix.f k a1_0 l1_1).bind fun bt653 => ((impl_Contains.f k bt648.1 bt648.2 bt653.1 bt653.2).bind fun bt658 => (if (bt658.1 != bt646.1) = true then (laws_FnExactContains.j0 k true a0_0 l0_1 a1_0 l1_1 bt648.1 bt648.2 bt653.1 bt653.2) else (laws_FnExactContains.j0 k (bt658.2 != bt646.2) a0_0 l0_1 a1_0 l1_1 bt648.1 bt648.2 bt653.1 bt653.2))))))) = some r := H
   have A19 := Aq.mk A190
   clear A190
   replace H := Option.bind_eq_some_iff.mp H
   obtain ⟨⟨t642, t643⟩, A200, H⟩ := H
   replace H : ((spec_Contains.f k t638 t639 t642 t643).bind fun bt646 => ((laws_toMatrix.f k a0_0 l0_1).bind fun bt648 => ((laws_toMatrix.f k a1_0 l1_1).bind fun bt653 => ((impl_Contains.f k bt648.1 bt648.2 bt653.1 bt653.2).bind fun bt658 => (if (bt658.1 != bt646.1) = true then (laws_FnExactContains.j0 k true a0_0 l0_1 a1_0 l1_1 bt648.1 bt648.2 bt653.1 bt653.2) else (laws_FnExactContains.j0 k (bt658.2 != bt646.2) a0_0 l0_1 a1_0 l1_1 bt648.1 bt648.2 bt653.1 bt653.2)))))) = some r := H
   have A20 := Aq.mk A200
   clear A200
   replace H := Option.bind_eq_some_iff.mp H
   obtain ⟨⟨t646, t647⟩, A210, H⟩ := H
   replace H : ((laws_toMatrix.f k a0_0 l0_1).bind fun bt648 => ((laws_toMatrix.f k a1_0 l1_1).bind fun bt653 => ((impl_Contains.f k bt648.1 bt648.2 bt653.1 bt653.2).bind fun bt658 => (if (bt658.1 != t646) = true then (laws_FnExactContains.j0 k true a0_0 l0_1 a1_0 l1_1 bt648.1 bt648.2 bt653.1 bt653.2) else (laws_FnExactContains.j0 k (bt658.2 != t647) a0_0 l0_1 a1_0 l1_1 bt648.1 bt648.2 bt653.1 bt653.2))))) = some r := H
   have A21 := Aq.mk A210
   clear A210
   replace H := Option.bind_eq_some_iff.mp H
   obtain ⟨⟨t648, t649⟩, A220, H⟩ := H
   replace H : ((laws_toMatrix.f k a1_0 l1_1).bind fun bt653 => ((impl_Contains.f k t648 t649 bt653.1 bt653.2).bind fun bt658 => (if (bt658.1 != t646) = true then (laws_FnExactContains.j0 k true a0_0 l0_1 a1_0 l1_1 t648 t649 bt653.1 bt653.2) else (laws_FnExactContains.j0 k (bt658.2 != t647) a0_0 l0_1 a1_0 l1_1 t648 t649 bt653.1 bt653.2)))) = some r := H
   have A22 := Aq.mk A220
   clear A220
   replace H := Option.bind_eq_some_iff.mp H
   obtain ⟨⟨t653, t654⟩, A230, H⟩ := H
   replace H : ((impl_Contains.f k t648 t649 t653 t654).bind fun bt658 => (if (bt658.1 != t646) = true then (laws_FnExactContains.j0 k true a0_0 l0_1 a1_0 l1_1 t648 t649 t653 t654) else (laws_FnExactContains.j0 k (bt658.2 != t647) a0_0 l0_1 a1_0 l1_1 t648 t649 t653 t654))) = some r := H
   have A23 := Aq.mk A230
   clear A230
   replace H := Option.bind_eq_some_iff.mp H
   obtain ⟨⟨t658, t659⟩, A240, H⟩ := H
   replace H : (if (t658 != t646) = true then (laws_FnExactContains.j0 k true a0_0 l0_1 a1_0 l1_1 t648 t649 t653 t654) else (laws_FnExactContains.j0 k (t659 != t647) a0_0 l0_1 a1_0 l1_1 t648 t649 t653 t654)) = some r := H
   have A24 := Aq.mk A240
   clear A240
   have HC25 := Aq.mk H
   clear H
   go_enter Try.func6, Try.ntmps6
   try go_wp2_with (first | ((with_reducible refine gQd (N := 2) rfl ?_); refine xQe ?hg (N := 2) ?hd (cs := #[.int .i64 a0_0, .slice A0_1 l0_1.length c0_1]) (t := 24) ?hr ?_; (case hd => rfl); (case hg => rfl); (case hr => first | (go_simp; done) | (go_simp; rfl)); intro gb634 hg w26 hbox hb; have n0_ := Aq.mk (bQT (by repeat (first | (with_reducible first | exact HB.out | apply bQA | apply bQN | apply bQ1) | exact HB.out)) hb); have n1_ := Aq.mk (hbox); have n2_ := Aq.mk ((by rw [hg]; exact (bQZ (by repeat (first | (with_reducible first | exact HB.out | apply bQA | apply bQN | apply bQ1) | exact HB.out))) : w.heap.size ≤ gb634)); have n3_ := Aq.mk ((by rw [hg]; exact (bQZ (by repeat (first | (with_reducible first | exact HB.out | apply bQA | apply bQN | apply bQ1) | exact HB.out))) : w.heap.size ≤ gb634)); clear HB; have HB := n0_; have BK634 := n1_; have GW634 := n2_; have GE634 := n3_; clear n0_ n1_ n2_ n3_; clear hb hbox hg) | ((with_reducible refine gQd (N := 3) rfl ?_); refine xQe ?hg (N := 3) ?hd (cs := #[.int .i64 a1_0, .slice A1_1 l1_1.length c1_1]) (t := 24) ?hr ?_; (case hd => rfl); (case hg => rfl); (case hr => first | (go_simp; done) | (go_simp; rfl)); intro gb635 hg w27 hbox hb; have n0_ := Aq.mk (kQB (g := gb634) (o := .cells #[.int .i64 a0_0, .slice A0_1 l0_1.length c0_1] 24 (0, 0)) (by (with_reducible repeat (first | refine kQN ?_ _ | refine kQD ?_ | refine kQA ?_ _)); exact BK634.out) hb); have n1_ := Aq.mk (bQT (by repeat (first | (with_reducible first | exact HB.out | apply bQA | apply bQN | apply bQ1 | refine bQS ?_ GE634.out) | exact HB.out)) hb); have n2_ := Aq.mk (hbox); have n3_ := Aq.mk ((by rw [hg]; exact (bQZ (by repeat (first | (with_reducible first | exact HB.out | apply bQA | apply bQN | apply bQ1 | refine bQS ?_ GE634.out) | exact HB.out))) : w.heap.size ≤ gb635)); have n4_ := Aq.mk ((by rw [hg]; exact (bQZ (by repeat (first | (with_reducible first | exact HB.out | apply bQA | apply bQN | apply bQ1 | refine bQS ?_ GE634.out) | exact HB.out))) : w.heap.size ≤ gb635)); have n5_ := Aq.mk ((by rw [hg]; exact Nat.ne_of_lt (blk_lt (g := gb634) (o := .cells #[.int .i64 a0_0, .slice A0_1 l0_1.length c0_1] 24 (0, 0)) (by (with_reducible repeat (first | refine kQN ?_ _ | refine kQD ?_ | refine kQA ?_ _)); exact BK634.out)) : gb634 ≠ gb635)); have n6_ := Aq.mk ((by rw [hg]; exact Nat.ne_of_gt (blk_lt (g := gb634) (o := .cells #[.int .i64 a0_0, .slice A0_1 l0_1.length c0_1] 24 (0, 0)) (by (with_reducible repeat (first | refine kQN ?_ _ | refine kQD ?_ | refine kQA ?_ _)); exact BK634.out)) : gb635 ≠ gb634)); clear BK634; clear HB; have BK634 := n0_; have HB := n1_; have BK635 := n2_; have GW635 := n3_; have GE635 := n4_; have NB634_635 := n5_; have NB635_634 := n6_; clear n0_ n1_ n2_ n3_ n4_ n5_ n6_; clear hb hbox hg; have hnb28 := NB634_635.out; have hnc28 := NB635_634.out; have hcz29_0 : w27.cell? ⟨gb634, 0, none⟩ = some (.int .i64 a0_0) := (kQC BK634.out 0).trans rfl; have hcz29_1 : w27.cell? ⟨gb634, 1, none⟩ = some (.slice A0_1 l0_1.length c0_1) := (kQC BK634.out 1).trans rfl; have hfz29_0 := kQF BK634.out 0; have hfz29_1 := kQF BK634.out 1) | ((with_reducible refine gQc (f := 15) rfl ?_); refine goesL_ (some 14) rfl rfl Try.func15 (by kernel_rfl) rfl #[.agg #[.int .i64 a0_0, .slice A0_1 l0_1.length c0_1], .int .i64 1048576] rfl (by (try simp only [List.map_toArray, List.map_cons, List.map_nil]); first | done | rfl | (simp only [List.length_drop, List.length_take]; rfl)) ?_; (with_reducible refine (laws_szMatrix.calls a0_0 _ _ l0_1 1048576 t636 _ ?side1 ?side2 A3.out).mono ?_); (case side1 => repeat (first | exact (Kd.C_below HR0_1.out HB.out) | (with_reducible refine Kd.CqA ?_ _) | (with_reducible refine Kd.CqN ?_ _) | (with_reducible refine Kd.CqD ?_))); (case side2 => exact HC0_1.out); rintro e w30 ⟨rfl, hb⟩; refine ⟨_, rfl, ?_⟩; have n0_ := Aq.mk (kQB (g := gb634) (o := .cells #[.int .i64 a0_0, .slice A0_1 l0_1.length c0_1] 24 (0, 0)) (by (with_reducible repeat (first | refine kQN ?_ _ | refine kQD ?_ | refine kQA ?_ _)); exact BK634.out) hb); have n1_ := Aq.mk (kQB (g := gb635) (o := .cells #[.int .i64 a1_0, .slice A1_1 l1_1.length c1_1] 24 (0, 0)) (by (with_reducible repeat (first | refine kQN ?_ _ | refine kQD ?_ | refine kQA ?_ _)); exact BK635.out) hb); have n2_ := Aq.mk (bQT (by repeat (first | (with_reducible first | exact HB.out | apply bQA | apply bQN | apply bQ1 | refine bQS ?_ GE634.out | refine bQS ?_ GE635.out) | exact HB.out)) hb); clear BK634; clear BK635; clear HB; have BK634 := n0_; have BK635 := n1_; have HB := n2_; clear n0_ n1_ n2_; (try clear hb); (try clear hb2); (try clear hk); (try clear hi); have hcz31_0 : w30.cell? ⟨gb635, 0, none⟩ = some (.int .i64 a1_0) := (kQC BK635.out 0).trans rfl; have hcz31_1 : w30.cell? ⟨gb635, 1, none⟩ = some (.slice A1_1 l1_1.length c1_1) := (kQC BK635.out 1).trans rfl; have hfz31_0 := kQF BK635.out 0; have hfz31_1 := kQF BK635.out 1) | ((with_reducible refine gQc (f := 15) rfl ?_); refine goesL_ (some 19) rfl rfl Try.func15 (by kernel_rfl) rfl #[.agg #[.int .i64 a1_0, .slice A1_1 l1_1.length c1_1], .int .i64 t636] rfl (by (try simp only [List.map_toArray, List.map_cons, List.map_nil]); first | done | rfl | (simp only [List.length_drop, List.length_take]; rfl)) ?_; (with_reducible refine (laws_szMatrix.calls a1_0 _ _ l1_1 t636 t637 _ ?side1 ?side2 A10.out).mono ?_); (case side1 => repeat (first | exact (Kd.C_below HR1_1.out HB.out) | (with_reducible refine Kd.CqA ?_ _) | (with_reducible refine Kd.CqN ?_ _) | (with_reducible refine Kd.CqD ?_))); (case side2 => exact HC1_1.out); rintro e w32 ⟨rfl, hb⟩; refine ⟨_, rfl, ?_⟩; have n0_ := Aq.mk (kQB (g := gb634) (o := .cells #[.int .i64 a0_0, .slice A0_1 l0_1.length c0_1] 24 (0, 0)) (by (with_reducible repeat (first | refine kQN ?_ _ | refine kQD ?_ | refine kQA ?_ _)); exact BK634.out) hb); have n1_ := Aq.mk (kQB (g := gb635) (o := .cells #[.int .i64 a1_0, .slice A1_1 l1_1.length c1_1] 24 (0, 0)) (by (with_reducible repeat (first | refine kQN ?_ _ | refine kQD ?_ | refine kQA ?_ _)); exact BK635.out) hb); have n2_ := Aq.mk (bQT (by repeat (first | (with_reducible first | exact HB.out | apply bQA | apply bQN | apply bQ1 | refine bQS ?_ GE634.out | refine bQS ?_ GE635.out) | exact HB.out)) hb); clear BK634; clear BK635; clear HB; have BK634 := n0_; have BK635 := n1_; have HB := n2_; clear n0_ n1_ n2_; (try clear hb); (try clear hb2); (try clear hk); (try clear hi)))
   have n0_ := Aq.mk (kQD BK634.out)
   have n1_ := Aq.mk (kQD BK635.out)
   have n2_ := Aq.mk (bQ1 HB.out)
   clear BK634
   clear BK635
   clear HB
   have BK634 := n0_
   have BK635 := n1_
   have HB := n2_
   clear n0_ n1_ n2_
   refine start_ (n := 10) (S := fun w' => w'.cell? ⟨gb634, 0, none⟩ = some (.int .i64 a0_0) ∧ w'.cell? ⟨gb634, 1, none⟩ = some (.slice A0_1 l0_1.length c0_1) ∧ w'.cell? ⟨gb635, 0, none⟩ = some (.int .i64 a1_0) ∧ w'.cell? ⟨gb635, 1, none⟩ = some (.slice A1_1 l1_1.length c1_1)) (ds := []) #[false, false, false, false, false, false, false, false, false, false] (by kernel_rfl) rfl rfl ⟨(kQC BK634.out 0).trans rfl, (kQC BK634.out 1).trans rfl, (kQC BK635.out 0).trans rfl, (kQC BK635.out 1).trans rfl⟩ (fun hHeld => ?_); refine with_tabW laws_FnExactContains.tab8 laws_FnExactContains.bits8 (fun HT_ HW_ => ?_)
   generalize w32.drew = w33 at BK634 BK635 HB hHeld ⊢
   refine take_ (i := 0) (N := some 23) (v := ?_) (a' := ?_) #[true, false, false, false, false, false, false, false, false, false] rfl rfl (take_ofW HT_.out HW_.out (by kernel_rfl)) (fun _ _ _ h => h) (Or.inl ⟨by rfl, ?_⟩) hHeld ?_ ?_
   rotate_left
   ·rintro w' ⟨s0, s1, s2, s3⟩
    go_simp
    with_reducible rfl
   rotate_left
   ·simp only [Act.put, qSa, qSb, qSc, i64_w, i32_w]
    rfl
   refine take_ (i := 2) (N := some 25) (v := ?_) (a' := ?_) #[true, false, true, false, false, false, false, false, false, false] rfl rfl (take_ofW HT_.out HW_.out (by kernel_rfl)) (fun _ _ _ h => h) (Or.inl ⟨by rfl, ?_⟩) hHeld ?_ ?_
   rotate_left
   ·rintro w' ⟨s0, s1, s2, s3⟩
    go_simp
    with_reducible rfl
   rotate_left
   ·simp only [Act.put, qSa, qSb, qSc, i64_w, i32_w]
    rfl
   refine one_ (i := 1) (N := some 24) #[true, true, true, false, false, false, false, false, false, false] rfl rfl (one_of HT_.out (by kernel_rfl)) (by decide) (fun K hK => ?_)
   refine goes_ Try.func17 (by kernel_rfl) rfl #[.agg #[.int .i64 a0_0, .slice A0_1 l0_1.length c0_1]] (by rfl) rfl rfl (by (try simp only [List.map_toArray, List.map_cons, List.map_nil]); first | done | rfl | (simp only [List.length_drop, List.length_take]; rfl)) ?_
   with_reducible refine (laws_toMatrix.calls k a0_0 _ _ l0_1 t638 t639 _ ?side1 ?side2 A19.out).mono ?_
   (case side1 => repeat (first | exact (Kd.C_below HR0_1.out HB.out) | (with_reducible refine Kd.CqA ?_ _) | (with_reducible refine Kd.CqN ?_ _) | (with_reducible refine Kd.CqD ?_)))
   (case side2 => exact HC0_1.out)
   rintro e w34 ⟨v640, rfl, ho0, hb⟩
   refine ⟨_, rfl, ?_⟩
   have n0_ := Aq.mk (Kd.R_lower ho0 (bQZ (by repeat (first | (with_reducible first | exact HB.out | apply bQA | apply bQN | apply bQ1 | refine bQS ?_ GE634.out | refine bQS ?_ GE635.out) | exact HB.out))))
   have n1_ := Aq.mk (kQB (g := gb634) (o := .cells #[.int .i64 a0_0, .slice A0_1 l0_1.length c0_1] 24 (0, 0)) (by (with_reducible repeat (first | refine kQN ?_ _ | refine kQD ?_ | refine kQA ?_ _)); exact BK634.out) hb)
   have n2_ := Aq.mk (kQB (g := gb635) (o := .cells #[.int .i64 a1_0, .slice A1_1 l1_1.length c1_1] 24 (0, 0)) (by (with_reducible repeat (first | refine kQN ?_ _ | refine kQD ?_ | refine kQA ?_ _)); exact BK635.out) hb)
   have n3_ := Aq.mk (bQT (by repeat (first | (with_reducible first | exact HB.out | apply bQA | apply bQN | apply bQ1 | refine bQS ?_ GE634.out | refine bQS ?_ GE635.out) | exact HB.out)) hb)
   clear BK634
   clear BK635
   clear HB
   have HO641 := n0_
   have BK634 := n1_
   have BK635 := n2_
   have HB := n3_
   clear n0_ n1_ n2_ n3_
   (try clear hb)
   (try clear hb2)
   (try clear hk)
   (try clear hi)
   (try clear ho0)
   refine hK.out _ _ ⟨(kQC BK634.out 0).trans rfl, (kQC BK634.out 1).trans rfl, (kQC BK635.out 0).trans rfl, (kQC BK635.out 1).trans rfl⟩ (fun hHeld => ?_)
   clear hK K
   refine norm_ (a' := ?_) ?_ ?_
   rotate_left
   ·show Act.put _ (some 24) _ = _
    simp only [Act.put, qSa, qSb, qSc, i64_w, i32_w]
    rfl
   refine one_ (i := 3) (N := some 26) #[true, true, true, true, false, false, false, false, false, false] rfl rfl (one_of HT_.out (by kernel_rfl)) (by decide) (fun K hK => ?_)
   refine goes_ Try.func17 (by kernel_rfl) rfl #[.agg #[.int .i64 a1_0, .slice A1_1 l1_1.length c1_1]] (by rfl) rfl rfl (by (try simp only [List.map_toArray, List.map_cons, List.map_nil]); first | done | rfl | (simp only [List.length_drop, List.length_take]; rfl)) ?_
   with_reducible refine (laws_toMatrix.calls k a1_0 _ _ l1_1 t642 t643 _ ?side1 ?side2 A20.out).mono ?_
   (case side1 => repeat (first | exact (Kd.C_below HR1_1.out HB.out) | (with_reducible refine Kd.CqA ?_ _) | (with_reducible refine Kd.CqN ?_ _) | (with_reducible refine Kd.CqD ?_)))
   (case side2 => exact HC1_1.out)
   rintro e w35 ⟨v644, rfl, ho0, hb⟩
   refine ⟨_, rfl, ?_⟩
   have n0_ := Aq.mk (Kd.R_elder' (by (with_reducible repeat (first | apply Kd.RqA | apply Kd.RqN | apply Kd.RqD)); exact HO641.out) (Kd.R_base ho0) hb)
   have n1_ := Aq.mk (Kd.R_lower (Kd.R_new' ho0 (Kd.R_lt (by (with_reducible repeat (first | apply Kd.RqA | apply Kd.RqN | apply Kd.RqD)); exact HO641.out))) (bQZ (by repeat (first | (with_reducible first | exact HB.out | apply bQA | apply bQN | apply bQ1 | refine bQS ?_ GE634.out | refine bQS ?_ GE635.out) | exact HB.out))))
   have n2_ := Aq.mk (kQB (g := gb634) (o := .cells #[.int .i64 a0_0, .slice A0_1 l0_1.length c0_1] 24 (0, 0)) (by (with_reducible repeat (first | refine kQN ?_ _ | refine kQD ?_ | refine kQA ?_ _)); exact BK634.out) hb)
   have n3_ := Aq.mk (kQB (g := gb635) (o := .cells #[.int .i64 a1_0, .slice A1_1 l1_1.length c1_1] 24 (0, 0)) (by (with_reducible repeat (first | refine kQN ?_ _ | refine kQD ?_ | refine kQA ?_ _)); exact BK635.out) hb)
   have n4_ := Aq.mk (bQT (by repeat (first | (with_reducible first | exact HB.out | apply bQA | apply bQN | apply bQ1 | refine bQS ?_ GE634.out | refine bQS ?_ GE635.out) | exact HB.out)) hb)
   clear HO641
   clear BK634
   clear BK635
   clear HB
   have HO641 := n0_
   have HO645 := n1_
   have BK634 := n2_
   have BK635 := n3_
   have HB := n4_
   clear n0_ n1_ n2_ n3_ n4_
   (try clear hb)
   (try clear hb2)
   (try clear hk)
   (try clear hi)
   (try clear ho0)
   obtain ⟨Ao36, co36, eo36⟩ := Kd.R_slice HO641.out
   (first | subst eo36 | (injection eo36 with f1_ f2_ f3_; have f4_ := f1_.symm; have f5_ := f3_.symm; clear f1_ f2_ f3_; subst f4_; subst f5_))
   obtain ⟨Ao37, co37, eo37⟩ := Kd.R_slice HO645.out
   (first | subst eo37 | (injection eo37 with f1_ f2_ f3_; have f4_ := f1_.symm; have f5_ := f3_.symm; clear f1_ f2_ f3_; subst f4_; subst f5_))
   refine hK.out _ _ ⟨(kQC BK634.out 0).trans rfl, (kQC BK634.out 1).trans rfl, (kQC BK635.out 0).trans rfl, (kQC BK635.out 1).trans rfl⟩ (fun hHeld => ?_)
   clear hK K
   refine norm_ (a' := ?_) ?_ ?_
   rotate_left
   ·show Act.put _ (some 26) _ = _
    simp only [Act.put, qSa, qSb, qSc, i64_w, i32_w]
    rfl
   refine one_ (i := 4) (N := some 27) #[true, true, true, true, true, false, false, false, false, false] rfl rfl (one_of HT_.out (by kernel_rfl)) (by decide) (fun K hK => ?_)
   refine goes_ Try.func34 (by kernel_rfl) rfl #[.agg #[.int .i64 t638, .slice Ao36 t639.length co36], .agg #[.int .i64 t642, .slice Ao37 t643.length co37]] (by rfl) rfl rfl (by (try simp only [List.map_toArray, List.map_cons, List.map_nil]); first | done | rfl | (simp only [List.length_drop, List.length_take]; rfl)) ?_
   with_reducible refine (spec_Contains.calls k t638 _ _ t639 t642 _ _ t643 t646 t647 _ ?side1 ?side2 ?side3 ?side4 A21.out).mono ?_
   (case side1 => repeat (first | exact (Kd.R_reads' HO641.out).2.2 | (with_reducible refine Kd.CqA ?_ _) | (with_reducible refine Kd.CqN ?_ _) | (with_reducible refine Kd.CqD ?_)))
   (case side2 => exact (Kd.R_reads' HO641.out).2.1)
   (case side3 => repeat (first | exact (Kd.R_reads' HO645.out).2.2 | (with_reducible refine Kd.CqA ?_ _) | (with_reducible refine Kd.CqN ?_ _) | (with_reducible refine Kd.CqD ?_)))
   (case side4 => exact (Kd.R_reads' HO645.out).2.1)
   rintro e w38 ⟨rfl, hb⟩
   refine ⟨_, rfl, ?_⟩
   have n0_ := Aq.mk (Kd.R_below (by (with_reducible repeat (first | apply Kd.RqA | apply Kd.RqN | apply Kd.RqD)); exact HO641.out) hb)
   have n1_ := Aq.mk (Kd.R_below (by (with_reducible repeat (first | apply Kd.RqA | apply Kd.RqN | apply Kd.RqD)); exact HO645.out) hb)
   have n2_ := Aq.mk (kQB (g := gb634) (o := .cells #[.int .i64 a0_0, .slice A0_1 l0_1.length c0_1] 24 (0, 0)) (by (with_reducible repeat (first | refine kQN ?_ _ | refine kQD ?_ | refine kQA ?_ _)); exact BK634.out) hb)
   have n3_ := Aq.mk (kQB (g := gb635) (o := .cells #[.int .i64 a1_0, .slice A1_1 l1_1.length c1_1] 24 (0, 0)) (by (with_reducible repeat (first | refine kQN ?_ _ | refine kQD ?_ | refine kQA ?_ _)); exact BK635.out) hb)
   have n4_ := Aq.mk (bQT (by repeat (first | (with_reducible first | exact HB.out | apply bQA | apply bQN | apply bQ1 | refine bQS ?_ GE634.out | refine bQS ?_ GE635.out) | exact HB.out)) hb)
   clear HO641
   clear HO645
   clear BK634
   clear BK635
   clear HB
   have HO641 := n0_
   have HO645 := n1_
   have BK634 := n2_
   have BK635 := n3_
   have HB := n4_
   clear n0_ n1_ n2_ n3_ n4_
   (try clear hb)
   (try clear hb2)
   (try clear hk)
   (try clear hi)
   refine hK.out _ _ ⟨(kQC BK634.out 0).trans rfl, (kQC BK634.out 1).trans rfl, (kQC BK635.out 0).trans rfl, (kQC BK635.out 1).trans rfl⟩ (fun hHeld => ?_)
   clear hK K
   refine norm_ (a' := ?_) ?_ ?_
   rotate_left
   ·show Act.put _ (some 27) _ = _
    simp only [Act.put, qSa, qSb, qSc, i64_w, i32_w]
    rfl
   refine pure_ (i := 5) (N := some 22) (v := ?_) (a' := ?_) #[true, true, true, true, true, true, false, false, false, false] rfl rfl (any_of HT_.out (by kernel_rfl)) (fun _ _ _ h => h) (Or.inl ⟨by rfl, ?_⟩) ?_ ?_
   rotate_left
   ·intro w'
    go_simp
    with_reducible rfl
   rotate_left
   ·simp only [Act.put, qSa, qSb, qSc, i64_w, i32_w]
    rfl
   refine pure_ (i := 6) (N := some 28) (v := ?_) (a' := ?_) #[true, true, true, true, true, true, true, false, false, false] rfl rfl (any_of HT_.out (by kernel_rfl)) (fun _ _ _ h => h) (Or.inl ⟨by rfl, ?_⟩) ?_ ?_
   rotate_left
   ·intro w'
    go_simp
    with_reducible rfl
   rotate_left
   ·simp only [Act.put, qSa, qSb, qSc, i64_w, i32_w]
    rfl
   refine pure_ (i := 7) (N := some 29) (v := ?_) (a' := ?_) #[true, true, true, true, true, true, true, true, false, false] rfl rfl (any_of HT_.out (by kernel_rfl)) (fun _ _ _ h => h) (Or.inl ⟨by rfl, ?_⟩) ?_ ?_
   rotate_left
   ·intro w'
    go_simp
    with_reducible rfl
   rotate_left
   ·simp only [Act.put, qSa, qSb, qSc, i64_w, i32_w]
    rfl
   refine pure_ (i := 8) (N := some 6) (v := ?_) (a' := ?_) #[true, true, true, true, true, true, true, true, true, false] rfl rfl (any_of HT_.out (by kernel_rfl)) (fun _ _ _ h => h) (Or.inl ⟨by rfl, ?_⟩) ?_ ?_
   rotate_left
   ·intro w'
    go_simp
    with_reducible rfl
   rotate_left
   ·simp only [Act.put, qSa, qSb, qSc, i64_w, i32_w]
    rfl
   refine pure_ (i := 9) (N := some 7) (v := ?_) (a' := ?_) #[true, true, true, true, true, true, true, true, true, true] rfl rfl (any_of HT_.out (by kernel_rfl)) (fun _ _ _ h => h) (Or.inl ⟨by rfl, ?_⟩) ?_ ?_
   rotate_left
   ·intro w'
    go_simp
    with_reducible rfl
   rotate_left
   ·simp only [Act.put, qSa, qSb, qSc, i64_w, i32_w]
    rfl
   refine done_ (done_of HT_.out (by kernel_rfl)) ?_
   have hcz39_0 : w38.cell? ⟨gb634, 0, none⟩ = some (.int .i64 a0_0) := (kQC BK634.out 0).trans rfl
   have hcz39_1 : w38.cell? ⟨gb634, 1, none⟩ = some (.slice A0_1 l0_1.length c0_1) := (kQC BK634.out 1).trans rfl
   have hfz39_0 := kQF BK634.out 0
   have hfz39_1 := kQF BK634.out 1
   go_upto_region 12 with (first | ((with_reducible refine gQc (f := 17) rfl ?_); refine goesL_ (some 31) rfl rfl Try.func17 (by kernel_rfl) rfl #[.agg #[.int .i64 a0_0, .slice A0_1 l0_1.length c0_1]] rfl (by (try simp only [List.map_toArray, List.map_cons, List.map_nil]); first | done | rfl | (simp only [List.length_drop, List.length_take]; rfl)) ?_; (with_reducible refine (laws_toMatrix.calls k a0_0 _ _ l0_1 t648 t649 _ ?side1 ?side2 A22.out).mono ?_); (case side1 => repeat (first | exact (Kd.C_below HR0_1.out HB.out) | (with_reducible refine Kd.CqA ?_ _) | (with_reducible refine Kd.CqN ?_ _) | (with_reducible refine Kd.CqD ?_))); (case side2 => exact HC0_1.out); rintro e w40 ⟨v650, rfl, ho0, hb⟩; refine ⟨_, rfl, ?_⟩; have n0_ := Aq.mk (Kd.R_elder' (by (with_reducible repeat (first | apply Kd.RqA | apply Kd.RqN | apply Kd.RqD)); exact HO641.out) (Kd.R_base ho0) hb); have n1_ := Aq.mk (Kd.R_elder' (by (with_reducible repeat (first | apply Kd.RqA | apply Kd.RqN | apply Kd.RqD)); exact HO645.out) (Kd.R_base ho0) hb); have n2_ := Aq.mk (Kd.R_lower (Kd.R_new' (Kd.R_new' ho0 (Kd.R_lt (by (with_reducible repeat (first | apply Kd.RqA | apply Kd.RqN | apply Kd.RqD)); exact HO641.out))) (Kd.R_lt (by (with_reducible repeat (first | apply Kd.RqA | apply Kd.RqN | apply Kd.RqD)); exact HO645.out))) (bQZ (by repeat (first | (with_reducible first | exact HB.out | apply bQA | apply bQN | apply bQ1 | refine bQS ?_ GE634.out | refine bQS ?_ GE635.out) | exact HB.out)))); have n3_ := Aq.mk (kQB (g := gb634) (o := .cells #[.int .i64 a0_0, .slice A0_1 l0_1.length c0_1] 24 (0, 0)) (by (with_reducible repeat (first | refine kQN ?_ _ | refine kQD ?_ | refine kQA ?_ _)); exact BK634.out) hb); have n4_ := Aq.mk (kQB (g := gb635) (o := .cells #[.int .i64 a1_0, .slice A1_1 l1_1.length c1_1] 24 (0, 0)) (by (with_reducible repeat (first | refine kQN ?_ _ | refine kQD ?_ | refine kQA ?_ _)); exact BK635.out) hb); have n5_ := Aq.mk (bQT (by repeat (first | (with_reducible first | exact HB.out | apply bQA | apply bQN | apply bQ1 | refine bQS ?_ GE634.out | refine bQS ?_ GE635.out) | exact HB.out)) hb); clear HO641; clear HO645; clear BK634; clear BK635; clear HB; have HO641 := n0_; have HO645 := n1_; have HO651 := n2_; have BK634 := n3_; have BK635 := n4_; have HB := n5_; clear n0_ n1_ n2_ n3_ n4_ n5_; (try clear hb); (try clear hb2); (try clear hk); (try clear hi); (try clear ho0)) | ((with_reducible refine gQd (N := 8) rfl ?_); refine xQe ?hg (N := 8) ?hd (cs := #[.int .i64 0, .slice none 0 0]) (t := 26) ?hr ?_; (case hd => rfl); (case hg => rfl); (case hr => first | (go_simp; done) | (go_simp; rfl)); intro gb652 hg w41 hbox hb; have n0_ := Aq.mk (Kd.R_below (by (with_reducible repeat (first | apply Kd.RqA | apply Kd.RqN | apply Kd.RqD)); exact HO641.out) hb); have n1_ := Aq.mk (Kd.R_below (by (with_reducible repeat (first | apply Kd.RqA | apply Kd.RqN | apply Kd.RqD)); exact HO645.out) hb); have n2_ := Aq.mk (Kd.R_below (by (with_reducible repeat (first | apply Kd.RqA | apply Kd.RqN | apply Kd.RqD)); exact HO651.out) hb); have n3_ := Aq.mk (kQB (g := gb634) (o := .cells #[.int .i64 a0_0, .slice A0_1 l0_1.length c0_1] 24 (0, 0)) (by (with_reducible repeat (first | refine kQN ?_ _ | refine kQD ?_ | refine kQA ?_ _)); exact BK634.out) hb); have n4_ := Aq.mk (kQB (g := gb635) (o := .cells #[.int .i64 a1_0, .slice A1_1 l1_1.length c1_1] 24 (0, 0)) (by (with_reducible repeat (first | refine kQN ?_ _ | refine kQD ?_ | refine kQA ?_ _)); exact BK635.out) hb); have n5_ := Aq.mk (bQT (by repeat (first | (with_reducible first | exact HB.out | apply bQA | apply bQN | apply bQ1 | refine bQS ?_ GE634.out | refine bQS ?_ GE635.out) | exact HB.out)) hb); have n6_ := Aq.mk (hbox); have n7_ := Aq.mk ((by rw [hg]; exact (bQZ (by repeat (first | (with_reducible first | exact HB.out | apply bQA | apply bQN | apply bQ1 | refine bQS ?_ GE634.out | refine bQS ?_ GE635.out) | exact HB.out))) : w.heap.size ≤ gb652)); have n8_ := Aq.mk ((by rw [hg]; exact (bQZ (by repeat (first | (with_reducible first | exact HB.out | apply bQA | apply bQN | apply bQ1 | refine bQS ?_ GE634.out | refine bQS ?_ GE635.out) | exact HB.out))) : w.heap.size ≤ gb652)); have n9_ := Aq.mk ((by rw [hg]; exact Nat.ne_of_lt (blk_lt (g := gb634) (o := .cells #[.int .i64 a0_0, .slice A0_1 l0_1.length c0_1] 24 (0, 0)) (by (with_reducible repeat (first | refine kQN ?_ _ | refine kQD ?_ | refine kQA ?_ _)); exact BK634.out)) : gb634 ≠ gb652)); have n10_ := Aq.mk ((by rw [hg]; exact Nat.ne_of_gt (blk_lt (g := gb634) (o := .cells #[.int .i64 a0_0, .slice A0_1 l0_1.length c0_1] 24 (0, 0)) (by (with_reducible repeat (first | refine kQN ?_ _ | refine kQD ?_ | refine kQA ?_ _)); exact BK634.out)) : gb652 ≠ gb634)); have n11_ := Aq.mk ((by rw [hg]; exact Nat.ne_of_lt (blk_lt (g := gb635) (o := .cells #[.int .i64 a1_0, .slice A1_1 l1_1.length c1_1] 24 (0, 0)) (by (with_reducible repeat (first | refine kQN ?_ _ | refine kQD ?_ | refine kQA ?_ _)); exact BK635.out)) : gb635 ≠ gb652)); have n12_ := Aq.mk ((by rw [hg]; exact Nat.ne_of_gt (blk_lt (g := gb635) (o := .cells #[.int .i64 a1_0, .slice A1_1 l1_1.length c1_1] 24 (0, 0)) (by (with_reducible repeat (first | refine kQN ?_ _ | refine kQD ?_ | refine kQA ?_ _)); exact BK635.out)) : gb652 ≠ gb635)); clear HO641; clear HO645; clear HO651; clear BK634; clear BK635; clear HB; have HO641 := n0_; have HO645 := n1_; have HO651 := n2_; have BK634 := n3_; have BK635 := n4_; have HB := n5_; have BK652 := n6_; have GW652 := n7_; have GE652 := n8_; have NB634_652 := n9_; have NB652_634 := n10_; have NB635_652 := n11_; have NB652_635 := n12_; clear n0_ n1_ n2_ n3_ n4_ n5_ n6_ n7_ n8_ n9_ n10_ n11_ n12_; clear hb hbox hg; have hnb42 := NB652_634.out; have hnc42 := NB634_652.out; have hnb43 := NB652_635.out; have hnc43 := NB635_652.out; have hcz44_0 : w41.cell? ⟨gb652, 0, none⟩ = some (.int .i64 0) := (kQC BK652.out 0).trans rfl; have hcz44_1 : w41.cell? ⟨gb652, 1, none⟩ = some (.slice none 0 0) := (kQC BK652.out 1).trans rfl; have hfz44_0 := kQF BK652.out 0; have hfz44_1 := kQF BK652.out 1; obtain ⟨Ao45, co45, eo45⟩ := Kd.R_slice HO651.out; subst eo45; have hcz46_0 : w41.cell? ⟨gb635, 0, none⟩ = some (.int .i64 a1_0) := (kQC BK635.out 0).trans rfl; have hcz46_1 : w41.cell? ⟨gb635, 1, none⟩ = some (.slice A1_1 l1_1.length c1_1) := (kQC BK635.out 1).trans rfl; have hfz46_0 := kQF BK635.out 0; have hfz46_1 := kQF BK635.out 1) | ((with_reducible refine gQc (f := 17) rfl ?_); refine goesL_ (some 33) rfl rfl Try.func17 (by kernel_rfl) rfl #[.agg #[.int .i64 a1_0, .slice A1_1 l1_1.length c1_1]] rfl (by (try simp only [List.map_toArray, List.map_cons, List.map_nil]); first | done | rfl | (simp only [List.length_drop, List.length_take]; rfl)) ?_; (with_reducible refine (laws_toMatrix.calls k a1_0 _ _ l1_1 t653 t654 _ ?side1 ?side2 A23.out).mono ?_); (case side1 => exact Kd.C_below HR1_1.out (by repeat (first | (with_reducible first | exact HB.out | apply bQA | apply bQN | apply bQ1 | refine bQS ?_ GE634.out | refine bQS ?_ GE635.out | refine bQS ?_ GE652.out) | exact HB.out))); (case side2 => exact HC1_1.out); rintro e w47 ⟨v655, rfl, ho0, hb⟩; refine ⟨_, rfl, ?_⟩; have n0_ := Aq.mk (Kd.R_elder' (by (with_reducible repeat (first | apply Kd.RqA | apply Kd.RqN | apply Kd.RqD)); exact (Kd.R_mono (Kd.R_far (p := ⟨gb652, 1, none⟩) (Kd.R_far (p := ⟨gb652, 0, none⟩) (Kd.R_types HO641.out BK652.out (by decide)) (fun _ hk => hk.2) (.int .i64 t648)) (fun _ hk => hk.2) (.slice Ao45 t649.length co45)) (fun _ h_ => h_.1))) (Kd.R_base ho0) hb); have n1_ := Aq.mk (Kd.R_elder' (by (with_reducible repeat (first | apply Kd.RqA | apply Kd.RqN | apply Kd.RqD)); exact (Kd.R_mono (Kd.R_far (p := ⟨gb652, 1, none⟩) (Kd.R_far (p := ⟨gb652, 0, none⟩) (Kd.R_types HO645.out BK652.out (by decide)) (fun _ hk => hk.2) (.int .i64 t648)) (fun _ hk => hk.2) (.slice Ao45 t649.length co45)) (fun _ h_ => h_.1))) (Kd.R_base ho0) hb); have n2_ := Aq.mk (Kd.R_elder' (by (with_reducible repeat (first | apply Kd.RqA | apply Kd.RqN | apply Kd.RqD)); exact (Kd.R_mono (Kd.R_far (p := ⟨gb652, 1, none⟩) (Kd.R_far (p := ⟨gb652, 0, none⟩) (Kd.R_types HO651.out BK652.out (by decide)) (fun _ hk => hk.2) (.int .i64 t648)) (fun _ hk => hk.2) (.slice Ao45 t649.length co45)) (fun _ h_ => h_.1))) (Kd.R_base ho0) hb); have n3_ := Aq.mk (Kd.R_lower (Kd.R_new' (Kd.R_new' (Kd.R_new' ho0 (Kd.R_lt (by (with_reducible repeat (first | apply Kd.RqA | apply Kd.RqN | apply Kd.RqD)); exact (Kd.R_mono (Kd.R_far (p := ⟨gb652, 1, none⟩) (Kd.R_far (p := ⟨gb652, 0, none⟩) (Kd.R_types HO641.out BK652.out (by decide)) (fun _ hk => hk.2) (.int .i64 t648)) (fun _ hk => hk.2) (.slice Ao45 t649.length co45)) (fun _ h_ => h_.1))))) (Kd.R_lt (by (with_reducible repeat (first | apply Kd.RqA | apply Kd.RqN | apply Kd.RqD)); exact (Kd.R_mono (Kd.R_far (p := ⟨gb652, 1, none⟩) (Kd.R_far (p := ⟨gb652, 0, none⟩) (Kd.R_types HO645.out BK652.out (by decide)) (fun _ hk => hk.2) (.int .i64 t648)) (fun _ hk => hk.2) (.slice Ao45 t649.length co45)) (fun _ h_ => h_.1))))) (Kd.R_lt (by (with_reducible repeat (first | apply Kd.RqA | apply Kd.RqN | apply Kd.RqD)); exact (Kd.R_mono (Kd.R_far (p := ⟨gb652, 1, none⟩) (Kd.R_far (p := ⟨gb652, 0, none⟩) (Kd.R_types HO651.out BK652.out (by decide)) (fun _ hk => hk.2) (.int .i64 t648)) (fun _ hk => hk.2) (.slice Ao45 t649.length co45)) (fun _ h_ => h_.1))))) (bQZ (by repeat (first | (with_reducible first | exact HB.out | apply bQA | apply bQN | apply bQ1 | refine bQS ?_ GE634.out | refine bQS ?_ GE635.out | refine bQS ?_ GE652.out) | exact HB.out)))); have n4_ := Aq.mk (kQB (g := gb634) (o := .cells #[.int .i64 a0_0, .slice A0_1 l0_1.length c0_1] 24 (0, 0)) (by (with_reducible repeat (first | refine kQN ?_ _ | refine kQD ?_ | refine kQA ?_ _)); refine kQR ?_ NB634_652.out _; (with_reducible repeat (first | refine kQN ?_ _ | refine kQD ?_ | refine kQA ?_ _)); refine kQR ?_ NB634_652.out _; (with_reducible repeat (first | refine kQN ?_ _ | refine kQD ?_ | refine kQA ?_ _)); exact BK634.out) hb); have n5_ := Aq.mk (kQB (g := gb635) (o := .cells #[.int .i64 a1_0, .slice A1_1 l1_1.length c1_1] 24 (0, 0)) (by (with_reducible repeat (first | refine kQN ?_ _ | refine kQD ?_ | refine kQA ?_ _)); refine kQR ?_ NB635_652.out _; (with_reducible repeat (first | refine kQN ?_ _ | refine kQD ?_ | refine kQA ?_ _)); refine kQR ?_ NB635_652.out _; (with_reducible repeat (first | refine kQN ?_ _ | refine kQD ?_ | refine kQA ?_ _)); exact BK635.out) hb); have n6_ := Aq.mk (kQB (g := gb652) (o := .cells #[.int .i64 t648, .slice Ao45 t649.length co45] 26 (0, 0)) (by (with_reducible repeat (first | refine kQN ?_ _ | refine kQD ?_ | refine kQA ?_ _)); refine kQP (cs := #[.int .i64 t648, .slice none 0 0]) ?_ 1 _ rfl; (with_reducible repeat (first | refine kQN ?_ _ | refine kQD ?_ | refine kQA ?_ _)); refine kQP (cs := #[.int .i64 0, .slice none 0 0]) ?_ 0 _ rfl; (with_reducible repeat (first | refine kQN ?_ _ | refine kQD ?_ | refine kQA ?_ _)); exact BK652.out) hb); have n7_ := Aq.mk (bQT (by repeat (first | (with_reducible first | exact HB.out | apply bQA | apply bQN | apply bQ1 | refine bQS ?_ GE634.out | refine bQS ?_ GE635.out | refine bQS ?_ GE652.out) | exact HB.out)) hb); clear HO641; clear HO645; clear HO651; clear BK634; clear BK635; clear BK652; clear HB; have HO641 := n0_; have HO645 := n1_; have HO651 := n2_; have HO656 := n3_; have BK634 := n4_; have BK635 := n5_; have BK652 := n6_; have HB := n7_; clear n0_ n1_ n2_ n3_ n4_ n5_ n6_ n7_; (try clear hb); (try clear hb2); (try clear hk); (try clear hi); (try clear ho0)) | ((with_reducible refine gQd (N := 9) rfl ?_); refine xQe ?hg (N := 9) ?hd (cs := #[.int .i64 0, .slice none 0 0]) (t := 26) ?hr ?_; (case hd => rfl); (case hg => rfl); (case hr => first | (go_simp; done) | (go_simp; rfl)); intro gb657 hg w48 hbox hb; have n0_ := Aq.mk (Kd.R_below (by (with_reducible repeat (first | apply Kd.RqA | apply Kd.RqN | apply Kd.RqD)); exact HO641.out) hb); have n1_ := Aq.mk (Kd.R_below (by (with_reducible repeat (first | apply Kd.RqA | apply Kd.RqN | apply Kd.RqD)); exact HO645.out) hb); have n2_ := Aq.mk (Kd.R_below (by (with_reducible repeat (first | apply Kd.RqA | apply Kd.RqN | apply Kd.RqD)); exact HO651.out) hb); have n3_ := Aq.mk (Kd.R_below (by (with_reducible repeat (first | apply Kd.RqA | apply Kd.RqN | apply Kd.RqD)); exact HO656.out) hb); have n4_ := Aq.mk (kQB (g := gb634) (o := .cells #[.int .i64 a0_0, .slice A0_1 l0_1.length c0_1] 24 (0, 0)) (by (with_reducible repeat (first | refine kQN ?_ _ | refine kQD ?_ | refine kQA ?_ _)); exact BK634.out) hb); have n5_ := Aq.mk (kQB (g := gb635) (o := .cells #[.int .i64 a1_0, .slice A1_1 l1_1.length c1_1] 24 (0, 0)) (by (with_reducible repeat (first | refine kQN ?_ _ | refine kQD ?_ | refine kQA ?_ _)); exact BK635.out) hb); have n6_ := Aq.mk (kQB (g := gb652) (o := .cells #[.int .i64 t648, .slice Ao45 t649.length co45] 26 (0, 0)) (by (with_reducible repeat (first | refine kQN ?_ _ | refine kQD ?_ | refine kQA ?_ _)); exact BK652.out) hb); have n7_ := Aq.mk (bQT (by repeat (first | (with_reducible first | exact HB.out | apply bQA | apply bQN | apply bQ1 | refine bQS ?_ GE634.out | refine bQS ?_ GE635.out | refine bQS ?_ GE652.out) | exact HB.out)) hb); have n8_ := Aq.mk (hbox); have n9_ := Aq.mk ((by rw [hg]; exact (bQZ (by repeat (first | (with_reducible first | exact HB.out | apply bQA | apply bQN | apply bQ1 | refine bQS ?_ GE634.out | refine bQS ?_ GE635.out | refine bQS ?_ GE652.out) | exact HB.out))) : w.heap.size ≤ gb657)); have n10_ := Aq.mk ((by rw [hg]; exact (bQZ (by repeat (first | (with_reducible first | exact HB.out | apply bQA | apply bQN | apply bQ1 | refine bQS ?_ GE634.out | refine bQS ?_ GE635.out | refine bQS ?_ GE652.out) | exact HB.out))) : w.heap.size ≤ gb657)); have n11_ := Aq.mk ((by rw [hg]; exact Nat.ne_of_lt (blk_lt (g := gb634) (o := .cells #[.int .i64 a0_0, .slice A0_1 l0_1.length c0_1] 24 (0, 0)) (by (with_reducible repeat (first | refine kQN ?_ _ | refine kQD ?_ | refine kQA ?_ _)); exact BK634.out)) : gb634 ≠ gb657)); have n12_ := Aq.mk ((by rw [hg]; exact Nat.ne_of_gt (blk_lt (g := gb634) (o := .cells #[.int .i64 a0_0, .slice A0_1 l0_1.length c0_1] 24 (0, 0)) (by (with_reducible repeat (first | refine kQN ?_ _ | refine kQD ?_ | refine kQA ?_ _)); exact BK634.out)) : gb657 ≠ gb634)); have n13_ := Aq.mk ((by rw [hg]; exact Nat.ne_of_lt (blk_lt (g := gb635) (o := .cells #[.int .i64 a1_0, .slice A1_1 l1_1.length c1_1] 24 (0, 0)) (by (with_reducible repeat (first | refine kQN ?_ _ | refine kQD ?_ | refine kQA ?_ _)); exact BK635.out)) : gb635 ≠ gb657)); have n14_ := Aq.mk ((by rw [hg]; exact Nat.ne_of_gt (blk_lt (g := gb635) (o := .cells #[.int .i64 a1_0, .slice A1_1 l1_1.length c1_1] 24 (0, 0)) (by (with_reducible repeat (first | refine kQN ?_ _ | refine kQD ?_ | refine kQA ?_ _)); exact BK635.out)) : gb657 ≠ gb635)); have n15_ := Aq.mk ((by rw [hg]; exact Nat.ne_of_lt (blk_lt (g := gb652) (o := .cells #[.int .i64 t648, .slice Ao45 t649.length co45] 26 (0, 0)) (by (with_reducible repeat (first | refine kQN ?_ _ | refine kQD ?_ | refine kQA ?_ _)); exact BK652.out)) : gb652 ≠ gb657)); have n16_ := Aq.mk ((by rw [hg]; exact Nat.ne_of_gt (blk_lt (g := gb652) (o := .cells #[.int .i64 t648, .slice Ao45 t649.length co45] 26 (0, 0)) (by (with_reducible repeat (first | refine kQN ?_ _ | refine kQD ?_ | refine kQA ?_ _)); exact BK652.out)) : gb657 ≠ gb652)); clear HO641; clear HO645; clear HO651; clear HO656; clear BK634; clear BK635; clear BK652; clear HB; have HO641 := n0_; have HO645 := n1_; have HO651 := n2_; have HO656 := n3_; have BK634 := n4_; have BK635 := n5_; have BK652 := n6_; have HB := n7_; have BK657 := n8_; have GW657 := n9_; have GE657 := n10_; have NB634_657 := n11_; have NB657_634 := n12_; have NB635_657 := n13_; have NB657_635 := n14_; have NB652_657 := n15_; have NB657_652 := n16_; clear n0_ n1_ n2_ n3_ n4_ n5_ n6_ n7_ n8_ n9_ n10_ n11_ n12_ n13_ n14_ n15_ n16_; clear hb hbox hg; have hnb49 := NB657_634.out; have hnc49 := NB634_657.out; have hnb50 := NB657_635.out; have hnc50 := NB635_657.out; have hnb51 := NB657_652.out; have hnc51 := NB652_657.out; have hcz52_0 : w48.cell? ⟨gb657, 0, none⟩ = some (.int .i64 0) := (kQC BK657.out 0).trans rfl; have hcz52_1 : w48.cell? ⟨gb657, 1, none⟩ = some (.slice none 0 0) := (kQC BK657.out 1).trans rfl; have hfz52_0 := kQF BK657.out 0; have hfz52_1 := kQF BK657.out 1; obtain ⟨Ao53, co53, eo53⟩ := Kd.R_slice HO656.out; subst eo53; have hcz54_0 : w48.cell? ⟨gb652, 0, none⟩ = some (.int .i64 t648) := (kQC BK652.out 0).trans rfl; have hcz54_1 : w48.cell? ⟨gb652, 1, none⟩ = some (.slice Ao45 t649.length co45) := (kQC BK652.out 1).trans rfl; have hfz54_0 := kQF BK652.out 0; have hfz54_1 := kQF BK652.out 1) | ((with_reducible refine gQc (f := 30) rfl ?_); refine goesL_ (some 37) rfl rfl Try.func30 (by kernel_rfl) rfl #[.agg #[.int .i64 t648, .slice Ao45 t649.length co45], .agg #[.int .i64 t653, .slice Ao53 t654.length co53]] rfl (by (try simp only [List.map_toArray, List.map_cons, List.map_nil]); first | done | rfl | (simp only [List.length_drop, List.length_take]; rfl)) ?_; (with_reducible refine (impl_Contains.calls k t648 _ _ t649 t653 _ _ t654 t658 t659 _ ?side1 ?side2 ?side3 ?side4 A24.out).mono ?_); (case side1 => refine (Kd.R_reads' (e := 2) (base := w.heap.size) (ok := fun k_ => (((True ∧ some k_ ≠ (.slice Ao36 t639.length co36 : Value).ownBlock) ∧ some k_ ≠ (.slice Ao37 t643.length co37 : Value).ownBlock) ∧ some k_ ≠ (.slice Ao53 t654.length co53 : Value).ownBlock)) (n := t649.length) (c := co45) ?_).2.2; exact (by (with_reducible repeat (first | apply Kd.RqA | apply Kd.RqN | apply Kd.RqD)); exact (Kd.R_mono (Kd.R_far (p := ⟨gb657, 1, none⟩) (Kd.R_far (p := ⟨gb657, 0, none⟩) (Kd.R_types HO651.out BK657.out (by decide)) (fun _ hk => hk.2) (.int .i64 t653)) (fun _ hk => hk.2) (.slice Ao53 t654.length co53)) (fun _ h_ => h_.1)))); (case side2 => exact (Kd.R_reads' HO651.out).2.1); (case side3 => refine (Kd.R_reads' (e := 2) (base := w.heap.size) (ok := fun k_ => (((True ∧ some k_ ≠ (.slice Ao36 t639.length co36 : Value).ownBlock) ∧ some k_ ≠ (.slice Ao37 t643.length co37 : Value).ownBlock) ∧ some k_ ≠ (.slice Ao45 t649.length co45 : Value).ownBlock)) (n := t654.length) (c := co53) ?_).2.2; exact (by (with_reducible repeat (first | apply Kd.RqA | apply Kd.RqN | apply Kd.RqD)); exact (Kd.R_mono (Kd.R_far (p := ⟨gb657, 1, none⟩) (Kd.R_far (p := ⟨gb657, 0, none⟩) (Kd.R_types HO656.out BK657.out (by decide)) (fun _ hk => hk.2) (.int .i64 t653)) (fun _ hk => hk.2) (.slice Ao53 t654.length co53)) (fun _ h_ => h_.1)))); (case side4 => exact (Kd.R_reads' HO656.out).2.1); rintro e w55 ⟨rfl, hb⟩; refine ⟨_, rfl, ?_⟩; have n0_ := Aq.mk (Kd.R_below (by (with_reducible repeat (first | apply Kd.RqA | apply Kd.RqN | apply Kd.RqD)); exact (Kd.R_mono (Kd.R_far (p := ⟨gb657, 1, none⟩) (Kd.R_far (p := ⟨gb657, 0, none⟩) (Kd.R_types HO641.out BK657.out (by decide)) (fun _ hk => hk.2) (.int .i64 t653)) (fun _ hk => hk.2) (.slice Ao53 t654.length co53)) (fun _ h_ => h_.1))) hb); have n1_ := Aq.mk (Kd.R_below (by (with_reducible repeat (first | apply Kd.RqA | apply Kd.RqN | apply Kd.RqD)); exact (Kd.R_mono (Kd.R_far (p := ⟨gb657, 1, none⟩) (Kd.R_far (p := ⟨gb657, 0, none⟩) (Kd.R_types HO645.out BK657.out (by decide)) (fun _ hk => hk.2) (.int .i64 t653)) (fun _ hk => hk.2) (.slice Ao53 t654.length co53)) (fun _ h_ => h_.1))) hb); have n2_ := Aq.mk (Kd.R_below (by (with_reducible repeat (first | apply Kd.RqA | apply Kd.RqN | apply Kd.RqD)); exact (Kd.R_mono (Kd.R_far (p := ⟨gb657, 1, none⟩) (Kd.R_far (p := ⟨gb657, 0, none⟩) (Kd.R_types HO651.out BK657.out (by decide)) (fun _ hk => hk.2) (.int .i64 t653)) (fun _ hk => hk.2) (.slice Ao53 t654.length co53)) (fun _ h_ => h_.1))) hb); have n3_ := Aq.mk (Kd.R_below (by (with_reducible repeat (first | apply Kd.RqA | apply Kd.RqN | apply Kd.RqD)); exact (Kd.R_mono (Kd.R_far (p := ⟨gb657, 1, none⟩) (Kd.R_far (p := ⟨gb657, 0, none⟩) (Kd.R_types HO656.out BK657.out (by decide)) (fun _ hk => hk.2) (.int .i64 t653)) (fun _ hk => hk.2) (.slice Ao53 t654.length co53)) (fun _ h_ => h_.1))) hb); have n4_ := Aq.mk (kQB (g := gb634) (o := .cells #[.int .i64 a0_0, .slice A0_1 l0_1.length c0_1] 24 (0, 0)) (by (with_reducible repeat (first | refine kQN ?_ _ | refine kQD ?_ | refine kQA ?_ _)); refine kQR ?_ NB634_657.out _; (with_reducible repeat (first | refine kQN ?_ _ | refine kQD ?_ | refine kQA ?_ _)); refine kQR ?_ NB634_657.out _; (with_reducible repeat (first | refine kQN ?_ _ | refine kQD ?_ | refine kQA ?_ _)); exact BK634.out) hb); have n5_ := Aq.mk (kQB (g := gb635) (o := .cells #[.int .i64 a1_0, .slice A1_1 l1_1.length c1_1] 24 (0, 0)) (by (with_reducible repeat (first | refine kQN ?_ _ | refine kQD ?_ | refine kQA ?_ _)); refine kQR ?_ NB635_657.out _; (with_reducible repeat (first | refine kQN ?_ _ | refine kQD ?_ | refine kQA ?_ _)); refine kQR ?_ NB635_657.out _; (with_reducible repeat (first | refine kQN ?_ _ | refine kQD ?_ | refine kQA ?_ _)); exact BK635.out) hb); have n6_ := Aq.mk (kQB (g := gb652) (o := .cells #[.int .i64 t648, .slice Ao45 t649.length co45] 26 (0, 0)) (by (with_reducible repeat (first | refine kQN ?_ _ | refine kQD ?_ | refine kQA ?_ _)); refine kQR ?_ NB652_657.out _; (with_reducible repeat (first | refine kQN ?_ _ | refine kQD ?_ | refine kQA ?_ _)); refine kQR ?_ NB652_657.out _; (with_reducible repeat (first | refine kQN ?_ _ | refine kQD ?_ | refine kQA ?_ _)); exact BK652.out) hb); have n7_ := Aq.mk (kQB (g := gb657) (o := .cells #[.int .i64 t653, .slice Ao53 t654.length co53] 26 (0, 0)) (by (with_reducible repeat (first | refine kQN ?_ _ | refine kQD ?_ | refine kQA ?_ _)); refine kQP (cs := #[.int .i64 t653, .slice none 0 0]) ?_ 1 _ rfl; (with_reducible repeat (first | refine kQN ?_ _ | refine kQD ?_ | refine kQA ?_ _)); refine kQP (cs := #[.int .i64 0, .slice none 0 0]) ?_ 0 _ rfl; (with_reducible repeat (first | refine kQN ?_ _ | refine kQD ?_ | refine kQA ?_ _)); exact BK657.out) hb); have n8_ := Aq.mk (bQT (by repeat (first | (with_reducible first | exact HB.out | apply bQA | apply bQN | apply bQ1 | refine bQS ?_ GE634.out | refine bQS ?_ GE635.out | refine bQS ?_ GE652.out | refine bQS ?_ GE657.out) | exact HB.out)) hb); clear HO641; clear HO645; clear HO651; clear HO656; clear BK634; clear BK635; clear BK652; clear BK657; clear HB; have HO641 := n0_; have HO645 := n1_; have HO651 := n2_; have HO656 := n3_; have BK634 := n4_; have BK635 := n5_; have BK652 := n6_; have BK657 := n7_; have HB := n8_; clear n0_ n1_ n2_ n3_ n4_ n5_ n6_ n7_ n8_; (try clear hb); (try clear hb2); (try clear hk); (try clear hi)))
   (try simp only [Act.put, qSa, qSb, qSc])
   go_cut [47] (fun v47 wc => ∃ (kq : Nat) (x47_24 : Bool), v47 = .bool x47_24 ∧ Aq (laws_FnExactContains.j0 kq x47_24 a0_0 l0_1 a1_0 l1_1 t648 t649 t653 t654 = some r) ∧ Aq (kq ≤ k) ∧ Aq (Kd.R (Kd.int .i64) 2 wc w.heap.size (fun k_ => some k_ ≠ ((.slice Ao53 t654.length co53) : Value).ownBlock) (.slice Ao45 t649.length co45) t649) ∧ Aq (Kd.R (Kd.int .i64) 2 wc w.heap.size (fun k_ => some k_ ≠ ((.slice Ao45 t649.length co45) : Value).ownBlock) (.slice Ao53 t654.length co53) t654) ∧ Aq (wc.heap[gb634]? = some (.cells #[.int .i64 a0_0, (.slice A0_1 l0_1.length c0_1)] 24 (0, 0))) ∧ Aq (wc.heap[gb635]? = some (.cells #[.int .i64 a1_0, (.slice A1_1 l1_1.length c1_1)] 24 (0, 0))) ∧ Aq (wc.heap[gb652]? = some (.cells #[.int .i64 t648, (.slice Ao45 t649.length co45)] 26 (0, 0))) ∧ Aq (wc.heap[gb657]? = some (.cells #[.int .i64 t653, (.slice Ao53 t654.length co53)] 26 (0, 0))) ∧ Aq (Below w.heap.size w wc))
   case first =>
    have H := HC25.out
    clear HC25
    by_cases c56 : (t658 != t646) = true
    ·rw [if_pos c56] at H
     have c56b0 : (t658 != t646) = true := c56
     (try (have c56b1 : decide (t658 = t646) = false := by simpa using c56))
     (try (have c56b2 : (t658 == t646) = false := by simpa using c56))
     (try (have c56b3 : ¬ (t658 = t646) := by simpa using c56))
     clear c56
     (first | rw [c56b0] | (simp only [i64_w, i32_w]; rw [c56b0]) | skip)
     have H' := Aq.mk H
     clear H
     go_wp2
     go_meet
     case rel => exact ⟨_, (true), (by first | rfl | (simp; done) | (simp [*]; done)), H', ⟨by first | omega | exact Nat.le_refl _⟩, ⟨by (with_reducible repeat (first | apply Kd.RqA | apply Kd.RqN | apply Kd.RqD)); exact Kd.R_mono HO651.out (fun _ hk => hk.2)⟩, ⟨by (with_reducible repeat (first | apply Kd.RqA | apply Kd.RqN | apply Kd.RqD)); exact Kd.R_mono HO656.out (fun _ hk => hk.2)⟩, ⟨by (with_reducible repeat (first | refine kQN ?_ _ | refine kQD ?_ | refine kQA ?_ _)); exact BK634.out⟩, ⟨by (with_reducible repeat (first | refine kQN ?_ _ | refine kQD ?_ | refine kQA ?_ _)); exact BK635.out⟩, ⟨by (with_reducible repeat (first | refine kQN ?_ _ | refine kQD ?_ | refine kQA ?_ _)); exact BK652.out⟩, ⟨by (with_reducible repeat (first | refine kQN ?_ _ | refine kQD ?_ | refine kQA ?_ _)); exact BK657.out⟩, ⟨by repeat (first | (with_reducible first | exact HB.out | apply bQA | apply bQN | apply bQ1 | refine bQS ?_ GE634.out | refine bQS ?_ GE635.out | refine bQS ?_ GE652.out | refine bQS ?_ GE657.out) | exact HB.out)⟩⟩
    ·rw [if_neg c56] at H
     have c56b0 : (t658 != t646) = false := by simpa using c56
     (try (have c56b1 : decide (t658 = t646) = true := by simpa using c56))
     (try (have c56b2 : (t658 == t646) = true := by simpa using c56))
     clear c56
     (first | rw [c56b0] | (simp only [i64_w, i32_w]; rw [c56b0]) | skip)
     have H' := Aq.mk H
     clear H
     go_wp2
     go_meet
     case rel => exact ⟨_, ((t659 != t647)), (by first | rfl | (simp; done) | (simp [*]; done)), H', ⟨by first | omega | exact Nat.le_refl _⟩, ⟨by (with_reducible repeat (first | apply Kd.RqA | apply Kd.RqN | apply Kd.RqD)); exact Kd.R_mono HO651.out (fun _ hk => hk.2)⟩, ⟨by (with_reducible repeat (first | apply Kd.RqA | apply Kd.RqN | apply Kd.RqD)); exact Kd.R_mono HO656.out (fun _ hk => hk.2)⟩, ⟨by (with_reducible repeat (first | refine kQN ?_ _ | refine kQD ?_ | refine kQA ?_ _)); exact BK634.out⟩, ⟨by (with_reducible repeat (first | refine kQN ?_ _ | refine kQD ?_ | refine kQA ?_ _)); exact BK635.out⟩, ⟨by (with_reducible repeat (first | refine kQN ?_ _ | refine kQD ?_ | refine kQA ?_ _)); exact BK652.out⟩, ⟨by (with_reducible repeat (first | refine kQN ?_ _ | refine kQD ?_ | refine kQA ?_ _)); exact BK657.out⟩, ⟨by repeat (first | (with_reducible first | exact HB.out | apply bQA | apply bQN | apply bQ1 | refine bQS ?_ GE634.out | refine bQS ?_ GE635.out | refine bQS ?_ GE652.out | refine bQS ?_ GE657.out) | exact HB.out)⟩⟩
   case rest =>
    clear HC25
    try clear c1
    try clear c2
    try clear p2
    try clear c3
    try clear c4
    try clear c4b0
    try clear c5
    try clear c6
    try clear c7
    try clear c11
    try clear c11b0
    try clear c14
    try clear c15
    try clear c17
    try clear c28
    try clear c30
    try clear c34
    try clear c42
    try clear c43
    try clear c49
    try clear c50
    try clear c51
    try clear c56
    try clear c56b0
    try clear c56b1
    try clear c56b2
    try clear hcz15_0
    try clear hcz15_1
    try clear hcz17_0
    try clear hcz17_1
    try clear hcz29_0
    try clear hcz29_1
    try clear hcz31_0
    try clear hcz31_1
    try clear hcz39_0
    try clear hcz39_1
    try clear hcz44_0
    try clear hcz44_1
    try clear hcz46_0
    try clear hcz46_1
    try clear hcz52_0
    try clear hcz52_1
    try clear hcz54_0
    try clear hcz54_1
    try clear hcz8_0
    try clear hcz8_1
    try clear hfz15_0
    try clear hfz15_1
    try clear hfz17_0
    try clear hfz17_1
    try clear hfz29_0
    try clear hfz29_1
    try clear hfz31_0
    try clear hfz31_1
    try clear hfz39_0
    try clear hfz39_1
    try clear hfz44_0
    try clear hfz44_1
    try clear hfz46_0
    try clear hfz46_1
    try clear hfz52_0
    try clear hfz52_1
    try clear hfz54_0
    try clear hfz54_1
    try clear hfz8_0
    try clear hfz8_1
    obtain ⟨kq, x47_24, rfl, HA, HJ24, HO_653001, HO_658001, BK634, BK635, BK652, BK657, HB⟩ := hcut
    cases kq with
    | zero => exact absurd HA.out (by simp [laws_FnExactContains.j0])
    | succ kj24 =>
     have H := HA.out
     clear HA
     simp only [laws_FnExactContains.j0] at H
     by_cases c57 : x47_24 = true
     ·subst c57
      have H1 : (some false) = some r := by rw [if_pos rfl] at H; exact H
      clear H
      have H := H1
      clear H1
      obtain rfl := Option.some.inj H
      go_wp2
      go_ret
      exact ⟨by first | rfl | (simp [errW_none, errW_some] <;> rfl) | (simp [*, errW_none, errW_some] <;> rfl), by repeat (first | (with_reducible first | exact HB.out | apply bQA | apply bQN | apply bQ1 | refine bQS ?_ GE634.out | refine bQS ?_ GE635.out | refine bQS ?_ GE652.out | refine bQS ?_ GE657.out) | exact HB.out)⟩
     ·replace c57 := Bool.eq_false_iff.mpr c57
      subst c57
      have H1 : ((laws_toMatrix.f kj24 a0_0 l0_1).bind fun bt660 => ((laws_eqMatrix.f kj24 t648 t649 bt660.1 bt660.2).bind fun t664 => (if t664 = true then ((laws_toMatrix.f kj24 a1_0 l1_1).bind fun bt665 => ((laws_eqMatrix.f kj24 t653 t654 bt665.1 bt665.2).bind fun t669 => (if t669 = true then (some true) else (some false)))) else (some false)))) = some r := by rw [if_neg (show ¬ (false = true) by decide)] at H; exact H
      clear H
      have H := H1
      clear H1
      replace H := Option.bind_eq_some_iff.mp H
      obtain ⟨⟨t660, t661⟩, A580, H⟩ := H
      replace H : ((laws_eqMatrix.f kj24 t648 t649 t660 t661).bind fun t664 => (if t664 = true then ((laws_toMatrix.f kj24 a1_0 l1_1).bind fun bt665 => ((laws_eqMatrix.f kj24 t653 t654 bt665.1 bt665.2).bind fun t669 => (if t669 = true then (some true) else (some false)))) else (some false))) = some r := H
      have A58 := Aq.mk A580
      clear A580
      replace H := Option.bind_eq_some_iff.mp H
      obtain ⟨t664, A590, H⟩ := H
      replace H : (if t664 = true then ((laws_toMatrix.f kj24 a1_0 l1_1).bind fun bt665 => ((laws_eqMatrix.f kj24 t653 t654 bt665.1 bt665.2).bind fun t669 => (if t669 = true then (some true) else (some false)))) else (some false)) = some r := H
      have A59 := Aq.mk A590
      clear A590
      by_cases c60 : t664 = true
      ·subst c60
       have H1 : ((laws_toMatrix.f kj24 a1_0 l1_1).bind fun bt665 => ((laws_eqMatrix.f kj24 t653 t654 bt665.1 bt665.2).bind fun t669 => (if t669 = true then (some true) else (some false)))) = some r := by rw [if_pos rfl] at H; exact H
       clear H
       have H := H1
       clear H1
       replace H := Option.bind_eq_some_iff.mp H
       obtain ⟨⟨t665, t666⟩, A610, H⟩ := H
       replace H : ((laws_eqMatrix.f kj24 t653 t654 t665 t666).bind fun t669 => (if t669 = true then (some true) else (some false))) = some r := H
       have A61 := Aq.mk A610
       clear A610
       replace H := Option.bind_eq_some_iff.mp H
       obtain ⟨t669, A620, H⟩ := H
       replace H : (if t669 = true then (some true) else (some false)) = some r := H
       have A62 := Aq.mk A620
       clear A620
       by_cases c63 : t669 = true
       ·subst c63
        have H1 : (some true) = some r := by rw [if_pos rfl] at H; exact H
        clear H
        have H := H1
        clear H1
        obtain rfl := Option.some.inj H
        try go_wp2
        have n0_ := Aq.mk (Kd.RqD HO_653001.out)
        have n1_ := Aq.mk (Kd.RqD HO_658001.out)
        have n2_ := Aq.mk (kQD BK634.out)
        have n3_ := Aq.mk (kQD BK635.out)
        have n4_ := Aq.mk (kQD BK652.out)
        have n5_ := Aq.mk (kQD BK657.out)
        have n6_ := Aq.mk (bQ1 HB.out)
        clear HO_653001
        clear HO_658001
        clear BK634
        clear BK635
        clear BK652
        clear BK657
        clear HB
        have HO_653001 := n0_
        have HO_658001 := n1_
        have BK634 := n2_
        have BK635 := n3_
        have BK652 := n4_
        have BK657 := n5_
        have HB := n6_
        clear n0_ n1_ n2_ n3_ n4_ n5_ n6_
        refine start_ (n := 5) (S := fun w' => w'.cell? ⟨gb652, 0, none⟩ = some (.int .i64 t648) ∧ w'.cell? ⟨gb652, 1, none⟩ = some (.slice Ao45 t649.length co45) ∧ w'.cell? ⟨gb634, 0, none⟩ = some (.int .i64 a0_0) ∧ w'.cell? ⟨gb634, 1, none⟩ = some (.slice A0_1 l0_1.length c0_1)) (ds := []) #[false, false, false, false, false] (by kernel_rfl) rfl rfl ⟨(kQC BK652.out 0).trans rfl, (kQC BK652.out 1).trans rfl, (kQC BK634.out 0).trans rfl, (kQC BK634.out 1).trans rfl⟩ (fun hHeld => ?_)
        generalize wc.drew = w64 at HO_653001 HO_658001 BK634 BK635 BK652 BK657 HB hHeld ⊢
        refine take_ (i := 0) (N := some 48) (v := ?_) (a' := ?_) #[true, false, false, false, false] rfl rfl (by kernel_rfl) (fun _ _ _ h => h) (Or.inl ⟨by rfl, ?_⟩) hHeld ?_ ?_
        rotate_left
        ·rintro w' ⟨s0, s1, s2, s3⟩
         go_simp
         with_reducible rfl
        rotate_left
        ·simp only [Act.put, qSa, qSb, qSc, i64_w, i32_w]
         rfl
        refine take_ (i := 1) (N := some 49) (v := ?_) (a' := ?_) #[true, true, false, false, false] rfl rfl (by kernel_rfl) (fun _ _ _ h => h) (Or.inl ⟨by rfl, ?_⟩) hHeld ?_ ?_
        rotate_left
        ·rintro w' ⟨s0, s1, s2, s3⟩
         go_simp
         with_reducible rfl
        rotate_left
        ·simp only [Act.put, qSa, qSb, qSc, i64_w, i32_w]
         rfl
        refine one_ (i := 2) (N := some 50) #[true, true, true, false, false] rfl rfl (by kernel_rfl) (by decide) (fun K hK => ?_)
        refine goes_ Try.func17 (by kernel_rfl) rfl #[.agg #[.int .i64 a0_0, .slice A0_1 l0_1.length c0_1]] (by rfl) rfl rfl (by (try simp only [List.map_toArray, List.map_cons, List.map_nil]); first | done | rfl | (simp only [List.length_drop, List.length_take]; rfl)) ?_
        with_reducible refine (laws_toMatrix.calls kj24 a0_0 _ _ l0_1 t660 t661 _ ?side1 ?side2 A58.out).mono ?_
        (case side1 => repeat (first | exact (Kd.C_below HR0_1.out HB.out) | (with_reducible refine Kd.CqA ?_ _) | (with_reducible refine Kd.CqN ?_ _) | (with_reducible refine Kd.CqD ?_)))
        (case side2 => exact HC0_1.out)
        rintro e w65 ⟨v662, rfl, ho0, hb⟩
        refine ⟨_, rfl, ?_⟩
        have n0_ := Aq.mk (Kd.R_elder' (by (with_reducible repeat (first | apply Kd.RqA | apply Kd.RqN | apply Kd.RqD)); exact HO_653001.out) (Kd.R_base ho0) hb)
        have n1_ := Aq.mk (Kd.R_elder' (by (with_reducible repeat (first | apply Kd.RqA | apply Kd.RqN | apply Kd.RqD)); exact HO_658001.out) (Kd.R_base ho0) hb)
        have n2_ := Aq.mk (Kd.R_lower (Kd.R_new' (Kd.R_new' ho0 (Kd.R_lt (by (with_reducible repeat (first | apply Kd.RqA | apply Kd.RqN | apply Kd.RqD)); exact HO_653001.out))) (Kd.R_lt (by (with_reducible repeat (first | apply Kd.RqA | apply Kd.RqN | apply Kd.RqD)); exact HO_658001.out))) (bQZ (by repeat (first | (with_reducible first | exact HB.out | apply bQA | apply bQN | apply bQ1 | refine bQS ?_ GE634.out | refine bQS ?_ GE635.out | refine bQS ?_ GE652.out | refine bQS ?_ GE657.out) | exact HB.out))))
        have n3_ := Aq.mk (kQB (g := gb634) (o := .cells #[.int .i64 a0_0, .slice A0_1 l0_1.length c0_1] 24 (0, 0)) (by (with_reducible repeat (first | refine kQN ?_ _ | refine kQD ?_ | refine kQA ?_ _)); exact BK634.out) hb)
        have n4_ := Aq.mk (kQB (g := gb635) (o := .cells #[.int .i64 a1_0, .slice A1_1 l1_1.length c1_1] 24 (0, 0)) (by (with_reducible repeat (first | refine kQN ?_ _ | refine kQD ?_ | refine kQA ?_ _)); exact BK635.out) hb)
        have n5_ := Aq.mk (kQB (g := gb652) (o := .cells #[.int .i64 t648, .slice Ao45 t649.length co45] 26 (0, 0)) (by (with_reducible repeat (first | refine kQN ?_ _ | refine kQD ?_ | refine kQA ?_ _)); exact BK652.out) hb)
        have n6_ := Aq.mk (kQB (g := gb657) (o := .cells #[.int .i64 t653, .slice Ao53 t654.length co53] 26 (0, 0)) (by (with_reducible repeat (first | refine kQN ?_ _ | refine kQD ?_ | refine kQA ?_ _)); exact BK657.out) hb)
        have n7_ := Aq.mk (bQT (by repeat (first | (with_reducible first | exact HB.out | apply bQA | apply bQN | apply bQ1 | refine bQS ?_ GE634.out | refine bQS ?_ GE635.out | refine bQS ?_ GE652.out | refine bQS ?_ GE657.out) | exact HB.out)) hb)
        clear HO_653001
        clear HO_658001
        clear BK634
        clear BK635
        clear BK652
        clear BK657
        clear HB
        have HO_653001 := n0_
        have HO_658001 := n1_
        have HO663 := n2_
        have BK634 := n3_
        have BK635 := n4_
        have BK652 := n5_
        have BK657 := n6_
        have HB := n7_
        clear n0_ n1_ n2_ n3_ n4_ n5_ n6_ n7_
        (try clear hb)
        (try clear hb2)
        (try clear hk)
        (try clear hi)
        (try clear ho0)
        obtain ⟨Ao66, co66, eo66⟩ := Kd.R_slice HO663.out
        (first | subst eo66 | (injection eo66 with f1_ f2_ f3_; have f4_ := f1_.symm; have f5_ := f3_.symm; clear f1_ f2_ f3_; subst f4_; subst f5_))
        refine hK.out _ _ ⟨(kQC BK652.out 0).trans rfl, (kQC BK652.out 1).trans rfl, (kQC BK634.out 0).trans rfl, (kQC BK634.out 1).trans rfl⟩ (fun hHeld => ?_)
        clear hK K
        refine norm_ (a' := ?_) ?_ ?_
        rotate_left
        ·show Act.put _ (some 50) _ = _
         simp only [Act.put, qSa, qSb, qSc, i64_w, i32_w]
         rfl
        refine one_ (i := 3) (N := some 51) #[true, true, true, true, false] rfl rfl (by kernel_rfl) (by decide) (fun K hK => ?_)
        refine goes_ Try.func19 (by kernel_rfl) rfl #[.agg #[.int .i64 t648, .slice Ao45 t649.length co45], .agg #[.int .i64 t660, .slice Ao66 t661.length co66]] (by rfl) rfl rfl (by (try simp only [List.map_toArray, List.map_cons, List.map_nil]); first | done | rfl | (simp only [List.length_drop, List.length_take]; rfl)) ?_
        with_reducible refine (laws_eqMatrix.calls kj24 t648 _ _ t649 t660 _ _ t661 true _ ?side1 ?side2 ?side3 ?side4 A59.out).mono ?_
        (case side1 => repeat (first | exact (Kd.R_reads' HO_653001.out).2.2 | (with_reducible refine Kd.CqA ?_ _) | (with_reducible refine Kd.CqN ?_ _) | (with_reducible refine Kd.CqD ?_)))
        (case side2 => exact (Kd.R_reads' HO_653001.out).2.1)
        (case side3 => repeat (first | exact (Kd.R_reads' HO663.out).2.2 | (with_reducible refine Kd.CqA ?_ _) | (with_reducible refine Kd.CqN ?_ _) | (with_reducible refine Kd.CqD ?_)))
        (case side4 => exact (Kd.R_reads' HO663.out).2.1)
        rintro e w67 ⟨rfl, hb⟩
        refine ⟨_, rfl, ?_⟩
        have n0_ := Aq.mk (Kd.R_below (by (with_reducible repeat (first | apply Kd.RqA | apply Kd.RqN | apply Kd.RqD)); exact HO_653001.out) hb)
        have n1_ := Aq.mk (Kd.R_below (by (with_reducible repeat (first | apply Kd.RqA | apply Kd.RqN | apply Kd.RqD)); exact HO_658001.out) hb)
        have n2_ := Aq.mk (Kd.R_below (by (with_reducible repeat (first | apply Kd.RqA | apply Kd.RqN | apply Kd.RqD)); exact HO663.out) hb)
        have n3_ := Aq.mk (kQB (g := gb634) (o := .cells #[.int .i64 a0_0, .slice A0_1 l0_1.length c0_1] 24 (0, 0)) (by (with_reducible repeat (first | refine kQN ?_ _ | refine kQD ?_ | refine kQA ?_ _)); exact BK634.out) hb)
        have n4_ := Aq.mk (kQB (g := gb635) (o := .cells #[.int .i64 a1_0, .slice A1_1 l1_1.length c1_1] 24 (0, 0)) (by (with_reducible repeat (first | refine kQN ?_ _ | refine kQD ?_ | refine kQA ?_ _)); exact BK635.out) hb)
        have n5_ := Aq.mk (kQB (g := gb652) (o := .cells #[.int .i64 t648, .slice Ao45 t649.length co45] 26 (0, 0)) (by (with_reducible repeat (first | refine kQN ?_ _ | refine kQD ?_ | refine kQA ?_ _)); exact BK652.out) hb)
        have n6_ := Aq.mk (kQB (g := gb657) (o := .cells #[.int .i64 t653, .slice Ao53 t654.length co53] 26 (0, 0)) (by (with_reducible repeat (first | refine kQN ?_ _ | refine kQD ?_ | refine kQA ?_ _)); exact BK657.out) hb)
        have n7_ := Aq.mk (bQT (by repeat (first | (with_reducible first | exact HB.out | apply bQA | apply bQN | apply bQ1 | refine bQS ?_ GE634.out | refine bQS ?_ GE635.out | refine bQS ?_ GE652.out | refine bQS ?_ GE657.out) | exact HB.out)) hb)
        clear HO_653001
        clear HO_658001
        clear HO663
        clear BK634
        clear BK635
        clear BK652
        clear BK657
        clear HB
        have HO_653001 := n0_
        have HO_658001 := n1_
        have HO663 := n2_
        have BK634 := n3_
        have BK635 := n4_
        have BK652 := n5_
        have BK657 := n6_
        have HB := n7_
        clear n0_ n1_ n2_ n3_ n4_ n5_ n6_ n7_
        (try clear hb)
        (try clear hb2)
        (try clear hk)
        (try clear hi)
        refine hK.out _ _ ⟨(kQC BK652.out 0).trans rfl, (kQC BK652.out 1).trans rfl, (kQC BK634.out 0).trans rfl, (kQC BK634.out 1).trans rfl⟩ (fun hHeld => ?_)
        clear hK K
        refine norm_ (a' := ?_) ?_ ?_
        rotate_left
        ·show Act.put _ (some 51) _ = _
         simp only [Act.put, qSa, qSb, qSc, i64_w, i32_w]
         rfl
        refine pure_ (i := 4) (N := some 52) (v := ?_) (a' := ?_) #[true, true, true, true, true] rfl rfl (by kernel_rfl) (fun _ _ _ h => h) (Or.inl ⟨by rfl, ?_⟩) ?_ ?_
        rotate_left
        ·intro w'
         go_simp
         with_reducible rfl
        rotate_left
        ·simp only [Act.put, qSa, qSb, qSc, i64_w, i32_w]
         rfl
        refine done_ (by kernel_rfl) ?_
        try go_wp2
        have n0_ := Aq.mk (Kd.RqD HO_653001.out)
        have n1_ := Aq.mk (Kd.RqD HO_658001.out)
        have n2_ := Aq.mk (Kd.RqD HO663.out)
        have n3_ := Aq.mk (kQD BK634.out)
        have n4_ := Aq.mk (kQD BK635.out)
        have n5_ := Aq.mk (kQD BK652.out)
        have n6_ := Aq.mk (kQD BK657.out)
        have n7_ := Aq.mk (bQ1 HB.out)
        clear HO_653001
        clear HO_658001
        clear HO663
        clear BK634
        clear BK635
        clear BK652
        clear BK657
        clear HB
        have HO_653001 := n0_
        have HO_658001 := n1_
        have HO663 := n2_
        have BK634 := n3_
        have BK635 := n4_
        have BK652 := n5_
        have BK657 := n6_
        have HB := n7_
        clear n0_ n1_ n2_ n3_ n4_ n5_ n6_ n7_
        refine start_ (n := 5) (S := fun w' => w'.cell? ⟨gb657, 0, none⟩ = some (.int .i64 t653) ∧ w'.cell? ⟨gb657, 1, none⟩ = some (.slice Ao53 t654.length co53) ∧ w'.cell? ⟨gb635, 0, none⟩ = some (.int .i64 a1_0) ∧ w'.cell? ⟨gb635, 1, none⟩ = some (.slice A1_1 l1_1.length c1_1)) (ds := []) #[false, false, false, false, false] (by kernel_rfl) rfl rfl ⟨(kQC BK657.out 0).trans rfl, (kQC BK657.out 1).trans rfl, (kQC BK635.out 0).trans rfl, (kQC BK635.out 1).trans rfl⟩ (fun hHeld => ?_)
        generalize w67.drew = w68 at HO_653001 HO_658001 HO663 BK634 BK635 BK652 BK657 HB hHeld ⊢
        refine take_ (i := 0) (N := some 53) (v := ?_) (a' := ?_) #[true, false, false, false, false] rfl rfl (by kernel_rfl) (fun _ _ _ h => h) (Or.inl ⟨by rfl, ?_⟩) hHeld ?_ ?_
        rotate_left
        ·rintro w' ⟨s0, s1, s2, s3⟩
         go_simp
         with_reducible rfl
        rotate_left
        ·simp only [Act.put, qSa, qSb, qSc, i64_w, i32_w]
         rfl
        refine take_ (i := 1) (N := some 54) (v := ?_) (a' := ?_) #[true, true, false, false, false] rfl rfl (by kernel_rfl) (fun _ _ _ h => h) (Or.inl ⟨by rfl, ?_⟩) hHeld ?_ ?_
        rotate_left
        ·rintro w' ⟨s0, s1, s2, s3⟩
         go_simp
         with_reducible rfl
        rotate_left
        ·simp only [Act.put, qSa, qSb, qSc, i64_w, i32_w]
         rfl
        refine one_ (i := 2) (N := some 55) #[true, true, true, false, false] rfl rfl (by kernel_rfl) (by decide) (fun K hK => ?_)
        refine goes_ Try.func17 (by kernel_rfl) rfl #[.agg #[.int .i64 a1_0, .slice A1_1 l1_1.length c1_1]] (by rfl) rfl rfl (by (try simp only [List.map_toArray, List.map_cons, List.map_nil]); first | done | rfl | (simp only [List.length_drop, List.length_take]; rfl)) ?_
        with_reducible refine (laws_toMatrix.calls kj24 a1_0 _ _ l1_1 t665 t666 _ ?side1 ?side2 A61.out).mono ?_
        (case side1 => repeat (first | exact (Kd.C_below HR1_1.out HB.out) | (with_reducible refine Kd.CqA ?_ _) | (with_reducible refine Kd.CqN ?_ _) | (with_reducible refine Kd.CqD ?_)))
        (case side2 => exact HC1_1.out)
        rintro e w69 ⟨v667, rfl, ho0, hb⟩
        refine ⟨_, rfl, ?_⟩
        have n0_ := Aq.mk (Kd.R_elder' (by (with_reducible repeat (first | apply Kd.RqA | apply Kd.RqN | apply Kd.RqD)); exact HO_653001.out) (Kd.R_base ho0) hb)
        have n1_ := Aq.mk (Kd.R_elder' (by (with_reducible repeat (first | apply Kd.RqA | apply Kd.RqN | apply Kd.RqD)); exact HO_658001.out) (Kd.R_base ho0) hb)
        have n2_ := Aq.mk (Kd.R_elder' (by (with_reducible repeat (first | apply Kd.RqA | apply Kd.RqN | apply Kd.RqD)); exact HO663.out) (Kd.R_base ho0) hb)
        have n3_ := Aq.mk (Kd.R_lower (Kd.R_new' (Kd.R_new' (Kd.R_new' ho0 (Kd.R_lt (by (with_reducible repeat (first | apply Kd.RqA | apply Kd.RqN | apply Kd.RqD)); exact HO_653001.out))) (Kd.R_lt (by (with_reducible repeat (first | apply Kd.RqA | apply Kd.RqN | apply Kd.RqD)); exact HO_658001.out))) (Kd.R_lt (by (with_reducible repeat (first | apply Kd.RqA | apply Kd.RqN | apply Kd.RqD)); exact HO663.out))) (bQZ (by repeat (first | (with_reducible first | exact HB.out | apply bQA | apply bQN | apply bQ1 | refine bQS ?_ GE634.out | refine bQS ?_ GE635.out | refine bQS ?_ GE652.out | refine bQS ?_ GE657.out) | exact HB.out))))
        have n4_ := Aq.mk (kQB (g := gb634) (o := .cells #[.int .i64 a0_0, .slice A0_1 l0_1.length c0_1] 24 (0, 0)) (by (with_reducible repeat (first | refine kQN ?_ _ | refine kQD ?_ | refine kQA ?_ _)); exact BK634.out) hb)
        have n5_ := Aq.mk (kQB (g := gb635) (o := .cells #[.int .i64 a1_0, .slice A1_1 l1_1.length c1_1] 24 (0, 0)) (by (with_reducible repeat (first | refine kQN ?_ _ | refine kQD ?_ | refine kQA ?_ _)); exact BK635.out) hb)
        have n6_ := Aq.mk (kQB (g := gb652) (o := .cells #[.int .i64 t648, .slice Ao45 t649.length co45] 26 (0, 0)) (by (with_reducible repeat (first | refine kQN ?_ _ | refine kQD ?_ | refine kQA ?_ _)); exact BK652.out) hb)
        have n7_ := Aq.mk (kQB (g := gb657) (o := .cells #[.int .i64 t653, .slice Ao53 t654.length co53] 26 (0, 0)) (by (with_reducible repeat (first | refine kQN ?_ _ | refine kQD ?_ | refine kQA ?_ _)); exact BK657.out) hb)
        have n8_ := Aq.mk (bQT (by repeat (first | (with_reducible first | exact HB.out | apply bQA | apply bQN | apply bQ1 | refine bQS ?_ GE634.out | refine bQS ?_ GE635.out | refine bQS ?_ GE652.out | refine bQS ?_ GE657.out) | exact HB.out)) hb)
        clear HO_653001
        clear HO_658001
        clear HO663
        clear BK634
        clear BK635
        clear BK652
        clear BK657
        clear HB
        have HO_653001 := n0_
        have HO_658001 := n1_
        have HO663 := n2_
        have HO668 := n3_
        have BK634 := n4_
        have BK635 := n5_
        have BK652 := n6_
        have BK657 := n7_
        have HB := n8_
        clear n0_ n1_ n2_ n3_ n4_ n5_ n6_ n7_ n8_
        (try clear hb)
        (try clear hb2)
        (try clear hk)
        (try clear hi)
        (try clear ho0)
        obtain ⟨Ao70, co70, eo70⟩ := Kd.R_slice HO668.out
        (first | subst eo70 | (injection eo70 with f1_ f2_ f3_; have f4_ := f1_.symm; have f5_ := f3_.symm; clear f1_ f2_ f3_; subst f4_; subst f5_))
        refine hK.out _ _ ⟨(kQC BK657.out 0).trans rfl, (kQC BK657.out 1).trans rfl, (kQC BK635.out 0).trans rfl, (kQC BK635.out 1).trans rfl⟩ (fun hHeld => ?_)
        clear hK K
        refine norm_ (a' := ?_) ?_ ?_
        rotate_left
        ·show Act.put _ (some 55) _ = _
         simp only [Act.put, qSa, qSb, qSc, i64_w, i32_w]
         rfl
        refine one_ (i := 3) (N := some 56) #[true, true, true, true, false] rfl rfl (by kernel_rfl) (by decide) (fun K hK => ?_)
        refine goes_ Try.func19 (by kernel_rfl) rfl #[.agg #[.int .i64 t653, .slice Ao53 t654.length co53], .agg #[.int .i64 t665, .slice Ao70 t666.length co70]] (by rfl) rfl rfl (by (try simp only [List.map_toArray, List.map_cons, List.map_nil]); first | done | rfl | (simp only [List.length_drop, List.length_take]; rfl)) ?_
        with_reducible refine (laws_eqMatrix.calls kj24 t653 _ _ t654 t665 _ _ t666 true _ ?side1 ?side2 ?side3 ?side4 A62.out).mono ?_
        (case side1 => repeat (first | exact (Kd.R_reads' HO_658001.out).2.2 | (with_reducible refine Kd.CqA ?_ _) | (with_reducible refine Kd.CqN ?_ _) | (with_reducible refine Kd.CqD ?_)))
        (case side2 => exact (Kd.R_reads' HO_658001.out).2.1)
        (case side3 => repeat (first | exact (Kd.R_reads' HO668.out).2.2 | (with_reducible refine Kd.CqA ?_ _) | (with_reducible refine Kd.CqN ?_ _) | (with_reducible refine Kd.CqD ?_)))
        (case side4 => exact (Kd.R_reads' HO668.out).2.1)
        rintro e w71 ⟨rfl, hb⟩
        refine ⟨_, rfl, ?_⟩
        have n0_ := Aq.mk (Kd.R_below (by (with_reducible repeat (first | apply Kd.RqA | apply Kd.RqN | apply Kd.RqD)); exact HO_653001.out) hb)
        have n1_ := Aq.mk (Kd.R_below (by (with_reducible repeat (first | apply Kd.RqA | apply Kd.RqN | apply Kd.RqD)); exact HO_658001.out) hb)
        have n2_ := Aq.mk (Kd.R_below (by (with_reducible repeat (first | apply Kd.RqA | apply Kd.RqN | apply Kd.RqD)); exact HO663.out) hb)
        have n3_ := Aq.mk (Kd.R_below (by (with_reducible repeat (first | apply Kd.RqA | apply Kd.RqN | apply Kd.RqD)); exact HO668.out) hb)
        have n4_ := Aq.mk (kQB (g := gb634) (o := .cells #[.int .i64 a0_0, .slice A0_1 l0_1.length c0_1] 24 (0, 0)) (by (with_reducible repeat (first | refine kQN ?_ _ | refine kQD ?_ | refine kQA ?_ _)); exact BK634.out) hb)
        have n5_ := Aq.mk (kQB (g := gb635) (o := .cells #[.int .i64 a1_0, .slice A1_1 l1_1.length c1_1] 24 (0, 0)) (by (with_reducible repeat (first | refine kQN ?_ _ | refine kQD ?_ | refine kQA ?_ _)); exact BK635.out) hb)
        have n6_ := Aq.mk (kQB (g := gb652) (o := .cells #[.int .i64 t648, .slice Ao45 t649.length co45] 26 (0, 0)) (by (with_reducible repeat (first | refine kQN ?_ _ | refine kQD ?_ | refine kQA ?_ _)); exact BK652.out) hb)
        have n7_ := Aq.mk (kQB (g := gb657) (o := .cells #[.int .i64 t653, .slice Ao53 t654.length co53] 26 (0, 0)) (by (with_reducible repeat (first | refine kQN ?_ _ | refine kQD ?_ | refine kQA ?_ _)); exact BK657.out) hb)
        have n8_ := Aq.mk (bQT (by repeat (first | (with_reducible first | exact HB.out | apply bQA | apply bQN | apply bQ1 | refine bQS ?_ GE634.out | refine bQS ?_ GE635.out | refine bQS ?_ GE652.out | refine bQS ?_ GE657.out) | exact HB.out)) hb)
        clear HO_653001
        clear HO_658001
        clear HO663
        clear HO668
        clear BK634
        clear BK635
        clear BK652
        clear BK657
        clear HB
        have HO_653001 := n0_
        have HO_658001 := n1_
        have HO663 := n2_
        have HO668 := n3_
        have BK634 := n4_
        have BK635 := n5_
        have BK652 := n6_
        have BK657 := n7_
        have HB := n8_
        clear n0_ n1_ n2_ n3_ n4_ n5_ n6_ n7_ n8_
        (try clear hb)
        (try clear hb2)
        (try clear hk)
        (try clear hi)
        refine hK.out _ _ ⟨(kQC BK657.out 0).trans rfl, (kQC BK657.out 1).trans rfl, (kQC BK635.out 0).trans rfl, (kQC BK635.out 1).trans rfl⟩ (fun hHeld => ?_)
        clear hK K
        refine norm_ (a' := ?_) ?_ ?_
        rotate_left
        ·show Act.put _ (some 56) _ = _
         simp only [Act.put, qSa, qSb, qSc, i64_w, i32_w]
         rfl
        refine pure_ (i := 4) (N := some 57) (v := ?_) (a' := ?_) #[true, true, true, true, true] rfl rfl (by kernel_rfl) (fun _ _ _ h => h) (Or.inl ⟨by rfl, ?_⟩) ?_ ?_
        rotate_left
        ·intro w'
         go_simp
         with_reducible rfl
        rotate_left
        ·simp only [Act.put, qSa, qSb, qSc, i64_w, i32_w]
         rfl
        refine done_ (by kernel_rfl) ?_
        try go_wp2
        go_ret
        exact ⟨by first | rfl | (simp [errW_none, errW_some] <;> rfl) | (simp [*, errW_none, errW_some] <;> rfl), by repeat (first | (with_reducible first | exact HB.out | apply bQA | apply bQN | apply bQ1 | refine bQS ?_ GE634.out | refine bQS ?_ GE635.out | refine bQS ?_ GE652.out | refine bQS ?_ GE657.out) | exact HB.out)⟩
       ·replace c63 := Bool.eq_false_iff.mpr c63
        subst c63
        have H1 : (some false) = some r := by rw [if_neg (show ¬ (false = true) by decide)] at H; exact H
        clear H
        have H := H1
        clear H1
        obtain rfl := Option.some.inj H
        try go_wp2
        have n0_ := Aq.mk (Kd.RqD HO_653001.out)
        have n1_ := Aq.mk (Kd.RqD HO_658001.out)
        have n2_ := Aq.mk (kQD BK634.out)
        have n3_ := Aq.mk (kQD BK635.out)
        have n4_ := Aq.mk (kQD BK652.out)
        have n5_ := Aq.mk (kQD BK657.out)
        have n6_ := Aq.mk (bQ1 HB.out)
        clear HO_653001
        clear HO_658001
        clear BK634
        clear BK635
        clear BK652
        clear BK657
        clear HB
        have HO_653001 := n0_
        have HO_658001 := n1_
        have BK634 := n2_
        have BK635 := n3_
        have BK652 := n4_
        have BK657 := n5_
        have HB := n6_
        clear n0_ n1_ n2_ n3_ n4_ n5_ n6_
        refine start_ (n := 5) (S := fun w' => w'.cell? ⟨gb652, 0, none⟩ = some (.int .i64 t648) ∧ w'.cell? ⟨gb652, 1, none⟩ = some (.slice Ao45 t649.length co45) ∧ w'.cell? ⟨gb634, 0, none⟩ = some (.int .i64 a0_0) ∧ w'.cell? ⟨gb634, 1, none⟩ = some (.slice A0_1 l0_1.length c0_1)) (ds := []) #[false, false, false, false, false] (by kernel_rfl) rfl rfl ⟨(kQC BK652.out 0).trans rfl, (kQC BK652.out 1).trans rfl, (kQC BK634.out 0).trans rfl, (kQC BK634.out 1).trans rfl⟩ (fun hHeld => ?_)
        generalize wc.drew = w72 at HO_653001 HO_658001 BK634 BK635 BK652 BK657 HB hHeld ⊢
        refine take_ (i := 0) (N := some 48) (v := ?_) (a' := ?_) #[true, false, false, false, false] rfl rfl (by kernel_rfl) (fun _ _ _ h => h) (Or.inl ⟨by rfl, ?_⟩) hHeld ?_ ?_
        rotate_left
        ·rintro w' ⟨s0, s1, s2, s3⟩
         go_simp
         with_reducible rfl
        rotate_left
        ·simp only [Act.put, qSa, qSb, qSc, i64_w, i32_w]
         rfl
        refine take_ (i := 1) (N := some 49) (v := ?_) (a' := ?_) #[true, true, false, false, false] rfl rfl (by kernel_rfl) (fun _ _ _ h => h) (Or.inl ⟨by rfl, ?_⟩) hHeld ?_ ?_
        rotate_left
        ·rintro w' ⟨s0, s1, s2, s3⟩
         go_simp
         with_reducible rfl
        rotate_left
        ·simp only [Act.put, qSa, qSb, qSc, i64_w, i32_w]
         rfl
        refine one_ (i := 2) (N := some 50) #[true, true, true, false, false] rfl rfl (by kernel_rfl) (by decide) (fun K hK => ?_)
        refine goes_ Try.func17 (by kernel_rfl) rfl #[.agg #[.int .i64 a0_0, .slice A0_1 l0_1.length c0_1]] (by rfl) rfl rfl (by (try simp only [List.map_toArray, List.map_cons, List.map_nil]); first | done | rfl | (simp only [List.length_drop, List.length_take]; rfl)) ?_
        with_reducible refine (laws_toMatrix.calls kj24 a0_0 _ _ l0_1 t660 t661 _ ?side1 ?side2 A58.out).mono ?_
        (case side1 => repeat (first | exact (Kd.C_below HR0_1.out HB.out) | (with_reducible refine Kd.CqA ?_ _) | (with_reducible refine Kd.CqN ?_ _) | (with_reducible refine Kd.CqD ?_)))
        (case side2 => exact HC0_1.out)
        rintro e w73 ⟨v662, rfl, ho0, hb⟩
        refine ⟨_, rfl, ?_⟩
        have n0_ := Aq.mk (Kd.R_elder' (by (with_reducible repeat (first | apply Kd.RqA | apply Kd.RqN | apply Kd.RqD)); exact HO_653001.out) (Kd.R_base ho0) hb)
        have n1_ := Aq.mk (Kd.R_elder' (by (with_reducible repeat (first | apply Kd.RqA | apply Kd.RqN | apply Kd.RqD)); exact HO_658001.out) (Kd.R_base ho0) hb)
        have n2_ := Aq.mk (Kd.R_lower (Kd.R_new' (Kd.R_new' ho0 (Kd.R_lt (by (with_reducible repeat (first | apply Kd.RqA | apply Kd.RqN | apply Kd.RqD)); exact HO_653001.out))) (Kd.R_lt (by (with_reducible repeat (first | apply Kd.RqA | apply Kd.RqN | apply Kd.RqD)); exact HO_658001.out))) (bQZ (by repeat (first | (with_reducible first | exact HB.out | apply bQA | apply bQN | apply bQ1 | refine bQS ?_ GE634.out | refine bQS ?_ GE635.out | refine bQS ?_ GE652.out | refine bQS ?_ GE657.out) | exact HB.out))))
        have n3_ := Aq.mk (kQB (g := gb634) (o := .cells #[.int .i64 a0_0, .slice A0_1 l0_1.length c0_1] 24 (0, 0)) (by (with_reducible repeat (first | refine kQN ?_ _ | refine kQD ?_ | refine kQA ?_ _)); exact BK634.out) hb)
        have n4_ := Aq.mk (kQB (g := gb635) (o := .cells #[.int .i64 a1_0, .slice A1_1 l1_1.length c1_1] 24 (0, 0)) (by (with_reducible repeat (first | refine kQN ?_ _ | refine kQD ?_ | refine kQA ?_ _)); exact BK635.out) hb)
        have n5_ := Aq.mk (kQB (g := gb652) (o := .cells #[.int .i64 t648, .slice Ao45 t649.length co45] 26 (0, 0)) (by (with_reducible repeat (first | refine kQN ?_ _ | refine kQD ?_ | refine kQA ?_ _)); exact BK652.out) hb)
        have n6_ := Aq.mk (kQB (g := gb657) (o := .cells #[.int .i64 t653, .slice Ao53 t654.length co53] 26 (0, 0)) (by (with_reducible repeat (first | refine kQN ?_ _ | refine kQD ?_ | refine kQA ?_ _)); exact BK657.out) hb)
        have n7_ := Aq.mk (bQT (by repeat (first | (with_reducible first | exact HB.out | apply bQA | apply bQN | apply bQ1 | refine bQS ?_ GE634.out | refine bQS ?_ GE635.out | refine bQS ?_ GE652.out | refine bQS ?_ GE657.out) | exact HB.out)) hb)
        clear HO_653001
        clear HO_658001
        clear BK634
        clear BK635
        clear BK652
        clear BK657
        clear HB
        have HO_653001 := n0_
        have HO_658001 := n1_
        have HO663 := n2_
        have BK634 := n3_
        have BK635 := n4_
        have BK652 := n5_
        have BK657 := n6_
        have HB := n7_
        clear n0_ n1_ n2_ n3_ n4_ n5_ n6_ n7_
        (try clear hb)
        (try clear hb2)
        (try clear hk)
        (try clear hi)
        (try clear ho0)
        obtain ⟨Ao74, co74, eo74⟩ := Kd.R_slice HO663.out
        (first | subst eo74 | (injection eo74 with f1_ f2_ f3_; have f4_ := f1_.symm; have f5_ := f3_.symm; clear f1_ f2_ f3_; subst f4_; subst f5_))
        refine hK.out _ _ ⟨(kQC BK652.out 0).trans rfl, (kQC BK652.out 1).trans rfl, (kQC BK634.out 0).trans rfl, (kQC BK634.out 1).trans rfl⟩ (fun hHeld => ?_)
        clear hK K
        refine norm_ (a' := ?_) ?_ ?_
        rotate_left
        ·show Act.put _ (some 50) _ = _
         simp only [Act.put, qSa, qSb, qSc, i64_w, i32_w]
         rfl
        refine one_ (i := 3) (N := some 51) #[true, true, true, true, false] rfl rfl (by kernel_rfl) (by decide) (fun K hK => ?_)
        refine goes_ Try.func19 (by kernel_rfl) rfl #[.agg #[.int .i64 t648, .slice Ao45 t649.length co45], .agg #[.int .i64 t660, .slice Ao74 t661.length co74]] (by rfl) rfl rfl (by (try simp only [List.map_toArray, List.map_cons, List.map_nil]); first | done | rfl | (simp only [List.length_drop, List.length_take]; rfl)) ?_
        with_reducible refine (laws_eqMatrix.calls kj24 t648 _ _ t649 t660 _ _ t661 true _ ?side1 ?side2 ?side3 ?side4 A59.out).mono ?_
        (case side1 => repeat (first | exact (Kd.R_reads' HO_653001.out).2.2 | (with_reducible refine Kd.CqA ?_ _) | (with_reducible refine Kd.CqN ?_ _) | (with_reducible refine Kd.CqD ?_)))
        (case side2 => exact (Kd.R_reads' HO_653001.out).2.1)
        (case side3 => repeat (first | exact (Kd.R_reads' HO663.out).2.2 | (with_reducible refine Kd.CqA ?_ _) | (with_reducible refine Kd.CqN ?_ _) | (with_reducible refine Kd.CqD ?_)))
        (case side4 => exact (Kd.R_reads' HO663.out).2.1)
        rintro e w75 ⟨rfl, hb⟩
        refine ⟨_, rfl, ?_⟩
        have n0_ := Aq.mk (Kd.R_below (by (with_reducible repeat (first | apply Kd.RqA | apply Kd.RqN | apply Kd.RqD)); exact HO_653001.out) hb)
        have n1_ := Aq.mk (Kd.R_below (by (with_reducible repeat (first | apply Kd.RqA | apply Kd.RqN | apply Kd.RqD)); exact HO_658001.out) hb)
        have n2_ := Aq.mk (Kd.R_below (by (with_reducible repeat (first | apply Kd.RqA | apply Kd.RqN | apply Kd.RqD)); exact HO663.out) hb)
        have n3_ := Aq.mk (kQB (g := gb634) (o := .cells #[.int .i64 a0_0, .slice A0_1 l0_1.length c0_1] 24 (0, 0)) (by (with_reducible repeat (first | refine kQN ?_ _ | refine kQD ?_ | refine kQA ?_ _)); exact BK634.out) hb)
        have n4_ := Aq.mk (kQB (g := gb635) (o := .cells #[.int .i64 a1_0, .slice A1_1 l1_1.length c1_1] 24 (0, 0)) (by (with_reducible repeat (first | refine kQN ?_ _ | refine kQD ?_ | refine kQA ?_ _)); exact BK635.out) hb)
        have n5_ := Aq.mk (kQB (g := gb652) (o := .cells #[.int .i64 t648, .slice Ao45 t649.length co45] 26 (0, 0)) (by (with_reducible repeat (first | refine kQN ?_ _ | refine kQD ?_ | refine kQA ?_ _)); exact BK652.out) hb)
        have n6_ := Aq.mk (kQB (g := gb657) (o := .cells #[.int .i64 t653, .slice Ao53 t654.length co53] 26 (0, 0)) (by (with_reducible repeat (first | refine kQN ?_ _ | refine kQD ?_ | refine kQA ?_ _)); exact BK657.out) hb)
        have n7_ := Aq.mk (bQT (by repeat (first | (with_reducible first | exact HB.out | apply bQA | apply bQN | apply bQ1 | refine bQS ?_ GE634.out | refine bQS ?_ GE635.out | refine bQS ?_ GE652.out | refine bQS ?_ GE657.out) | exact HB.out)) hb)
        clear HO_653001
        clear HO_658001
        clear HO663
        clear BK634
        clear BK635
        clear BK652
        clear BK657
        clear HB
        have HO_653001 := n0_
        have HO_658001 := n1_
        have HO663 := n2_
        have BK634 := n3_
        have BK635 := n4_
        have BK652 := n5_
        have BK657 := n6_
        have HB := n7_
        clear n0_ n1_ n2_ n3_ n4_ n5_ n6_ n7_
        (try clear hb)
        (try clear hb2)
        (try clear hk)
        (try clear hi)
        refine hK.out _ _ ⟨(kQC BK652.out 0).trans rfl, (kQC BK652.out 1).trans rfl, (kQC BK634.out 0).trans rfl, (kQC BK634.out 1).trans rfl⟩ (fun hHeld => ?_)
        clear hK K
        refine norm_ (a' := ?_) ?_ ?_
        rotate_left
        ·show Act.put _ (some 51) _ = _
         simp only [Act.put, qSa, qSb, qSc, i64_w, i32_w]
         rfl
        refine pure_ (i := 4) (N := some 52) (v := ?_) (a' := ?_) #[true, true, true, true, true] rfl rfl (by kernel_rfl) (fun _ _ _ h => h) (Or.inl ⟨by rfl, ?_⟩) ?_ ?_
        rotate_left
        ·intro w'
         go_simp
         with_reducible rfl
        rotate_left
        ·simp only [Act.put, qSa, qSb, qSc, i64_w, i32_w]
         rfl
        refine done_ (by kernel_rfl) ?_
        try go_wp2
        have n0_ := Aq.mk (Kd.RqD HO_653001.out)
        have n1_ := Aq.mk (Kd.RqD HO_658001.out)
        have n2_ := Aq.mk (Kd.RqD HO663.out)
        have n3_ := Aq.mk (kQD BK634.out)
        have n4_ := Aq.mk (kQD BK635.out)
        have n5_ := Aq.mk (kQD BK652.out)
        have n6_ := Aq.mk (kQD BK657.out)
        have n7_ := Aq.mk (bQ1 HB.out)
        clear HO_653001
        clear HO_658001
        clear HO663
        clear BK634
        clear BK635
        clear BK652
        clear BK657
        clear HB
        have HO_653001 := n0_
        have HO_658001 := n1_
        have HO663 := n2_
        have BK634 := n3_
        have BK635 := n4_
        have BK652 := n5_
        have BK657 := n6_
        have HB := n7_
        clear n0_ n1_ n2_ n3_ n4_ n5_ n6_ n7_
        refine start_ (n := 5) (S := fun w' => w'.cell? ⟨gb657, 0, none⟩ = some (.int .i64 t653) ∧ w'.cell? ⟨gb657, 1, none⟩ = some (.slice Ao53 t654.length co53) ∧ w'.cell? ⟨gb635, 0, none⟩ = some (.int .i64 a1_0) ∧ w'.cell? ⟨gb635, 1, none⟩ = some (.slice A1_1 l1_1.length c1_1)) (ds := []) #[false, false, false, false, false] (by kernel_rfl) rfl rfl ⟨(kQC BK657.out 0).trans rfl, (kQC BK657.out 1).trans rfl, (kQC BK635.out 0).trans rfl, (kQC BK635.out 1).trans rfl⟩ (fun hHeld => ?_)
        generalize w75.drew = w76 at HO_653001 HO_658001 HO663 BK634 BK635 BK652 BK657 HB hHeld ⊢
        refine take_ (i := 0) (N := some 53) (v := ?_) (a' := ?_) #[true, false, false, false, false] rfl rfl (by kernel_rfl) (fun _ _ _ h => h) (Or.inl ⟨by rfl, ?_⟩) hHeld ?_ ?_
        rotate_left
        ·rintro w' ⟨s0, s1, s2, s3⟩
         go_simp
         with_reducible rfl
        rotate_left
        ·simp only [Act.put, qSa, qSb, qSc, i64_w, i32_w]
         rfl
        refine take_ (i := 1) (N := some 54) (v := ?_) (a' := ?_) #[true, true, false, false, false] rfl rfl (by kernel_rfl) (fun _ _ _ h => h) (Or.inl ⟨by rfl, ?_⟩) hHeld ?_ ?_
        rotate_left
        ·rintro w' ⟨s0, s1, s2, s3⟩
         go_simp
         with_reducible rfl
        rotate_left
        ·simp only [Act.put, qSa, qSb, qSc, i64_w, i32_w]
         rfl
        refine one_ (i := 2) (N := some 55) #[true, true, true, false, false] rfl rfl (by kernel_rfl) (by decide) (fun K hK => ?_)
        refine goes_ Try.func17 (by kernel_rfl) rfl #[.agg #[.int .i64 a1_0, .slice A1_1 l1_1.length c1_1]] (by rfl) rfl rfl (by (try simp only [List.map_toArray, List.map_cons, List.map_nil]); first | done | rfl | (simp only [List.length_drop, List.length_take]; rfl)) ?_
        with_reducible refine (laws_toMatrix.calls kj24 a1_0 _ _ l1_1 t665 t666 _ ?side1 ?side2 A61.out).mono ?_
        (case side1 => repeat (first | exact (Kd.C_below HR1_1.out HB.out) | (with_reducible refine Kd.CqA ?_ _) | (with_reducible refine Kd.CqN ?_ _) | (with_reducible refine Kd.CqD ?_)))
        (case side2 => exact HC1_1.out)
        rintro e w77 ⟨v667, rfl, ho0, hb⟩
        refine ⟨_, rfl, ?_⟩
        have n0_ := Aq.mk (Kd.R_elder' (by (with_reducible repeat (first | apply Kd.RqA | apply Kd.RqN | apply Kd.RqD)); exact HO_653001.out) (Kd.R_base ho0) hb)
        have n1_ := Aq.mk (Kd.R_elder' (by (with_reducible repeat (first | apply Kd.RqA | apply Kd.RqN | apply Kd.RqD)); exact HO_658001.out) (Kd.R_base ho0) hb)
        have n2_ := Aq.mk (Kd.R_elder' (by (with_reducible repeat (first | apply Kd.RqA | apply Kd.RqN | apply Kd.RqD)); exact HO663.out) (Kd.R_base ho0) hb)
        have n3_ := Aq.mk (Kd.R_lower (Kd.R_new' (Kd.R_new' (Kd.R_new' ho0 (Kd.R_lt (by (with_reducible repeat (first | apply Kd.RqA | apply Kd.RqN | apply Kd.RqD)); exact HO_653001.out))) (Kd.R_lt (by (with_reducible repeat (first | apply Kd.RqA | apply Kd.RqN | apply Kd.RqD)); exact HO_658001.out))) (Kd.R_lt (by (with_reducible repeat (first | apply Kd.RqA | apply Kd.RqN | apply Kd.RqD)); exact HO663.out))) (bQZ (by repeat (first | (with_reducible first | exact HB.out | apply bQA | apply bQN | apply bQ1 | refine bQS ?_ GE634.out | refine bQS ?_ GE635.out | refine bQS ?_ GE652.out | refine bQS ?_ GE657.out) | exact HB.out))))
        have n4_ := Aq.mk (kQB (g := gb634) (o := .cells #[.int .i64 a0_0, .slice A0_1 l0_1.length c0_1] 24 (0, 0)) (by (with_reducible repeat (first | refine kQN ?_ _ | refine kQD ?_ | refine kQA ?_ _)); exact BK634.out) hb)
        have n5_ := Aq.mk (kQB (g := gb635) (o := .cells #[.int .i64 a1_0, .slice A1_1 l1_1.length c1_1] 24 (0, 0)) (by (with_reducible repeat (first | refine kQN ?_ _ | refine kQD ?_ | refine kQA ?_ _)); exact BK635.out) hb)
        have n6_ := Aq.mk (kQB (g := gb652) (o := .cells #[.int .i64 t648, .slice Ao45 t649.length co45] 26 (0, 0)) (by (with_reducible repeat (first | refine kQN ?_ _ | refine kQD ?_ | refine kQA ?_ _)); exact BK652.out) hb)
        have n7_ := Aq.mk (kQB (g := gb657) (o := .cells #[.int .i64 t653, .slice Ao53 t654.length co53] 26 (0, 0)) (by (with_reducible repeat (first | refine kQN ?_ _ | refine kQD ?_ | refine kQA ?_ _)); exact BK657.out) hb)
        have n8_ := Aq.mk (bQT (by repeat (first | (with_reducible first | exact HB.out | apply bQA | apply bQN | apply bQ1 | refine bQS ?_ GE634.out | refine bQS ?_ GE635.out | refine bQS ?_ GE652.out | refine bQS ?_ GE657.out) | exact HB.out)) hb)
        clear HO_653001
        clear HO_658001
        clear HO663
        clear BK634
        clear BK635
        clear BK652
        clear BK657
        clear HB
        have HO_653001 := n0_
        have HO_658001 := n1_
        have HO663 := n2_
        have HO668 := n3_
        have BK634 := n4_
        have BK635 := n5_
        have BK652 := n6_
        have BK657 := n7_
        have HB := n8_
        clear n0_ n1_ n2_ n3_ n4_ n5_ n6_ n7_ n8_
        (try clear hb)
        (try clear hb2)
        (try clear hk)
        (try clear hi)
        (try clear ho0)
        obtain ⟨Ao78, co78, eo78⟩ := Kd.R_slice HO668.out
        (first | subst eo78 | (injection eo78 with f1_ f2_ f3_; have f4_ := f1_.symm; have f5_ := f3_.symm; clear f1_ f2_ f3_; subst f4_; subst f5_))
        refine hK.out _ _ ⟨(kQC BK657.out 0).trans rfl, (kQC BK657.out 1).trans rfl, (kQC BK635.out 0).trans rfl, (kQC BK635.out 1).trans rfl⟩ (fun hHeld => ?_)
        clear hK K
        refine norm_ (a' := ?_) ?_ ?_
        rotate_left
        ·show Act.put _ (some 55) _ = _
         simp only [Act.put, qSa, qSb, qSc, i64_w, i32_w]
         rfl
        refine one_ (i := 3) (N := some 56) #[true, true, true, true, false] rfl rfl (by kernel_rfl) (by decide) (fun K hK => ?_)
        refine goes_ Try.func19 (by kernel_rfl) rfl #[.agg #[.int .i64 t653, .slice Ao53 t654.length co53], .agg #[.int .i64 t665, .slice Ao78 t666.length co78]] (by rfl) rfl rfl (by (try simp only [List.map_toArray, List.map_cons, List.map_nil]); first | done | rfl | (simp only [List.length_drop, List.length_take]; rfl)) ?_
        with_reducible refine (laws_eqMatrix.calls kj24 t653 _ _ t654 t665 _ _ t666 false _ ?side1 ?side2 ?side3 ?side4 A62.out).mono ?_
        (case side1 => repeat (first | exact (Kd.R_reads' HO_658001.out).2.2 | (with_reducible refine Kd.CqA ?_ _) | (with_reducible refine Kd.CqN ?_ _) | (with_reducible refine Kd.CqD ?_)))
        (case side2 => exact (Kd.R_reads' HO_658001.out).2.1)
        (case side3 => repeat (first | exact (Kd.R_reads' HO668.out).2.2 | (with_reducible refine Kd.CqA ?_ _) | (with_reducible refine Kd.CqN ?_ _) | (with_reducible refine Kd.CqD ?_)))
        (case side4 => exact (Kd.R_reads' HO668.out).2.1)
        rintro e w79 ⟨rfl, hb⟩
        refine ⟨_, rfl, ?_⟩
        have n0_ := Aq.mk (Kd.R_below (by (with_reducible repeat (first | apply Kd.RqA | apply Kd.RqN | apply Kd.RqD)); exact HO_653001.out) hb)
        have n1_ := Aq.mk (Kd.R_below (by (with_reducible repeat (first | apply Kd.RqA | apply Kd.RqN | apply Kd.RqD)); exact HO_658001.out) hb)
        have n2_ := Aq.mk (Kd.R_below (by (with_reducible repeat (first | apply Kd.RqA | apply Kd.RqN | apply Kd.RqD)); exact HO663.out) hb)
        have n3_ := Aq.mk (Kd.R_below (by (with_reducible repeat (first | apply Kd.RqA | apply Kd.RqN | apply Kd.RqD)); exact HO668.out) hb)
        have n4_ := Aq.mk (kQB (g := gb634) (o := .cells #[.int .i64 a0_0, .slice A0_1 l0_1.length c0_1] 24 (0, 0)) (by (with_reducible repeat (first | refine kQN ?_ _ | refine kQD ?_ | refine kQA ?_ _)); exact BK634.out) hb)
        have n5_ := Aq.mk (kQB (g := gb635) (o := .cells #[.int .i64 a1_0, .slice A1_1 l1_1.length c1_1] 24 (0, 0)) (by (with_reducible repeat (first | refine kQN ?_ _ | refine kQD ?_ | refine kQA ?_ _)); exact BK635.out) hb)
        have n6_ := Aq.mk (kQB (g := gb652) (o := .cells #[.int .i64 t648, .slice Ao45 t649.length co45] 26 (0, 0)) (by (with_reducible repeat (first | refine kQN ?_ _ | refine kQD ?_ | refine kQA ?_ _)); exact BK652.out) hb)
        have n7_ := Aq.mk (kQB (g := gb657) (o := .cells #[.int .i64 t653, .slice Ao53 t654.length co53] 26 (0, 0)) (by (with_reducible repeat (first | refine kQN ?_ _ | refine kQD ?_ | refine kQA ?_ _)); exact BK657.out) hb)
        have n8_ := Aq.mk (bQT (by repeat (first | (with_reducible first | exact HB.out | apply bQA | apply bQN | apply bQ1 | refine bQS ?_ GE634.out | refine bQS ?_ GE635.out | refine bQS ?_ GE652.out | refine bQS ?_ GE657.out) | exact HB.out)) hb)
        clear HO_653001
        clear HO_658001
        clear HO663
        clear HO668
        clear BK634
        clear BK635
        clear BK652
        clear BK657
        clear HB
        have HO_653001 := n0_
        have HO_658001 := n1_
        have HO663 := n2_
        have HO668 := n3_
        have BK634 := n4_
        have BK635 := n5_
        have BK652 := n6_
        have BK657 := n7_
        have HB := n8_
        clear n0_ n1_ n2_ n3_ n4_ n5_ n6_ n7_ n8_
        (try clear hb)
        (try clear hb2)
        (try clear hk)
        (try clear hi)
        refine hK.out _ _ ⟨(kQC BK657.out 0).trans rfl, (kQC BK657.out 1).trans rfl, (kQC BK635.out 0).trans rfl, (kQC BK635.out 1).trans rfl⟩ (fun hHeld => ?_)
        clear hK K
        refine norm_ (a' := ?_) ?_ ?_
        rotate_left
        ·show Act.put _ (some 56) _ = _
         simp only [Act.put, qSa, qSb, qSc, i64_w, i32_w]
         rfl
        refine pure_ (i := 4) (N := some 57) (v := ?_) (a' := ?_) #[true, true, true, true, true] rfl rfl (by kernel_rfl) (fun _ _ _ h => h) (Or.inl ⟨by rfl, ?_⟩) ?_ ?_
        rotate_left
        ·intro w'
         go_simp
         with_reducible rfl
        rotate_left
        ·simp only [Act.put, qSa, qSb, qSc, i64_w, i32_w]
         rfl
        refine done_ (by kernel_rfl) ?_
        try go_wp2
        go_ret
        exact ⟨by first | rfl | (simp [errW_none, errW_some] <;> rfl) | (simp [*, errW_none, errW_some] <;> rfl), by repeat (first | (with_reducible first | exact HB.out | apply bQA | apply bQN | apply bQ1 | refine bQS ?_ GE634.out | refine bQS ?_ GE635.out | refine bQS ?_ GE652.out | refine bQS ?_ GE657.out) | exact HB.out)⟩
      ·replace c60 := Bool.eq_false_iff.mpr c60
       subst c60
       have H1 : (some false) = some r := by rw [if_neg (show ¬ (false = true) by decide)] at H; exact H
       clear H
       have H := H1
       clear H1
       obtain rfl := Option.some.inj H
       try go_wp2
       have n0_ := Aq.mk (Kd.RqD HO_653001.out)
       have n1_ := Aq.mk (Kd.RqD HO_658001.out)
       have n2_ := Aq.mk (kQD BK634.out)
       have n3_ := Aq.mk (kQD BK635.out)
       have n4_ := Aq.mk (kQD BK652.out)
       have n5_ := Aq.mk (kQD BK657.out)
       have n6_ := Aq.mk (bQ1 HB.out)
       clear HO_653001
       clear HO_658001
       clear BK634
       clear BK635
       clear BK652
       clear BK657
       clear HB
       have HO_653001 := n0_
       have HO_658001 := n1_
       have BK634 := n2_
       have BK635 := n3_
       have BK652 := n4_
       have BK657 := n5_
       have HB := n6_
       clear n0_ n1_ n2_ n3_ n4_ n5_ n6_
       refine start_ (n := 5) (S := fun w' => w'.cell? ⟨gb652, 0, none⟩ = some (.int .i64 t648) ∧ w'.cell? ⟨gb652, 1, none⟩ = some (.slice Ao45 t649.length co45) ∧ w'.cell? ⟨gb634, 0, none⟩ = some (.int .i64 a0_0) ∧ w'.cell? ⟨gb634, 1, none⟩ = some (.slice A0_1 l0_1.length c0_1)) (ds := []) #[false, false, false, false, false] (by kernel_rfl) rfl rfl ⟨(kQC BK652.out 0).trans rfl, (kQC BK652.out 1).trans rfl, (kQC BK634.out 0).trans rfl, (kQC BK634.out 1).trans rfl⟩ (fun hHeld => ?_)
       generalize wc.drew = w80 at HO_653001 HO_658001 BK634 BK635 BK652 BK657 HB hHeld ⊢
       refine take_ (i := 0) (N := some 48) (v := ?_) (a' := ?_) #[true, false, false, false, false] rfl rfl (by kernel_rfl) (fun _ _ _ h => h) (Or.inl ⟨by rfl, ?_⟩) hHeld ?_ ?_
       rotate_left
       ·rintro w' ⟨s0, s1, s2, s3⟩
        go_simp
        with_reducible rfl
       rotate_left
       ·simp only [Act.put, qSa, qSb, qSc, i64_w, i32_w]
        rfl
       refine take_ (i := 1) (N := some 49) (v := ?_) (a' := ?_) #[true, true, false, false, false] rfl rfl (by kernel_rfl) (fun _ _ _ h => h) (Or.inl ⟨by rfl, ?_⟩) hHeld ?_ ?_
       rotate_left
       ·rintro w' ⟨s0, s1, s2, s3⟩
        go_simp
        with_reducible rfl
       rotate_left
       ·simp only [Act.put, qSa, qSb, qSc, i64_w, i32_w]
        rfl
       refine one_ (i := 2) (N := some 50) #[true, true, true, false, false] rfl rfl (by kernel_rfl) (by decide) (fun K hK => ?_)
       refine goes_ Try.func17 (by kernel_rfl) rfl #[.agg #[.int .i64 a0_0, .slice A0_1 l0_1.length c0_1]] (by rfl) rfl rfl (by (try simp only [List.map_toArray, List.map_cons, List.map_nil]); first | done | rfl | (simp only [List.length_drop, List.length_take]; rfl)) ?_
       with_reducible refine (laws_toMatrix.calls kj24 a0_0 _ _ l0_1 t660 t661 _ ?side1 ?side2 A58.out).mono ?_
       (case side1 => repeat (first | exact (Kd.C_below HR0_1.out HB.out) | (with_reducible refine Kd.CqA ?_ _) | (with_reducible refine Kd.CqN ?_ _) | (with_reducible refine Kd.CqD ?_)))
       (case side2 => exact HC0_1.out)
       rintro e w81 ⟨v662, rfl, ho0, hb⟩
       refine ⟨_, rfl, ?_⟩
       have n0_ := Aq.mk (Kd.R_elder' (by (with_reducible repeat (first | apply Kd.RqA | apply Kd.RqN | apply Kd.RqD)); exact HO_653001.out) (Kd.R_base ho0) hb)
       have n1_ := Aq.mk (Kd.R_elder' (by (with_reducible repeat (first | apply Kd.RqA | apply Kd.RqN | apply Kd.RqD)); exact HO_658001.out) (Kd.R_base ho0) hb)
       have n2_ := Aq.mk (Kd.R_lower (Kd.R_new' (Kd.R_new' ho0 (Kd.R_lt (by (with_reducible repeat (first | apply Kd.RqA | apply Kd.RqN | apply Kd.RqD)); exact HO_653001.out))) (Kd.R_lt (by (with_reducible repeat (first | apply Kd.RqA | apply Kd.RqN | apply Kd.RqD)); exact HO_658001.out))) (bQZ (by repeat (first | (with_reducible first | exact HB.out | apply bQA | apply bQN | apply bQ1 | refine bQS ?_ GE634.out | refine bQS ?_ GE635.out | refine bQS ?_ GE652.out | refine bQS ?_ GE657.out) | exact HB.out))))
       have n3_ := Aq.mk (kQB (g := gb634) (o := .cells #[.int .i64 a0_0, .slice A0_1 l0_1.length c0_1] 24 (0, 0)) (by (with_reducible repeat (first | refine kQN ?_ _ | refine kQD ?_ | refine kQA ?_ _)); exact BK634.out) hb)
       have n4_ := Aq.mk (kQB (g := gb635) (o := .cells #[.int .i64 a1_0, .slice A1_1 l1_1.length c1_1] 24 (0, 0)) (by (with_reducible repeat (first | refine kQN ?_ _ | refine kQD ?_ | refine kQA ?_ _)); exact BK635.out) hb)
       have n5_ := Aq.mk (kQB (g := gb652) (o := .cells #[.int .i64 t648, .slice Ao45 t649.length co45] 26 (0, 0)) (by (with_reducible repeat (first | refine kQN ?_ _ | refine kQD ?_ | refine kQA ?_ _)); exact BK652.out) hb)
       have n6_ := Aq.mk (kQB (g := gb657) (o := .cells #[.int .i64 t653, .slice Ao53 t654.length co53] 26 (0, 0)) (by (with_reducible repeat (first | refine kQN ?_ _ | refine kQD ?_ | refine kQA ?_ _)); exact BK657.out) hb)
       have n7_ := Aq.mk (bQT (by repeat (first | (with_reducible first | exact HB.out | apply bQA | apply bQN | apply bQ1 | refine bQS ?_ GE634.out | refine bQS ?_ GE635.out | refine bQS ?_ GE652.out | refine bQS ?_ GE657.out) | exact HB.out)) hb)
       clear HO_653001
       clear HO_658001
       clear BK634
       clear BK635
       clear BK652
       clear BK657
       clear HB
       have HO_653001 := n0_
       have HO_658001 := n1_
       have HO663 := n2_
       have BK634 := n3_
       have BK635 := n4_
       have BK652 := n5_
       have BK657 := n6_
       have HB := n7_
       clear n0_ n1_ n2_ n3_ n4_ n5_ n6_ n7_
       (try clear hb)
       (try clear hb2)
       (try clear hk)
       (try clear hi)
       (try clear ho0)
       obtain ⟨Ao82, co82, eo82⟩ := Kd.R_slice HO663.out
       (first | subst eo82 | (injection eo82 with f1_ f2_ f3_; have f4_ := f1_.symm; have f5_ := f3_.symm; clear f1_ f2_ f3_; subst f4_; subst f5_))
       refine hK.out _ _ ⟨(kQC BK652.out 0).trans rfl, (kQC BK652.out 1).trans rfl, (kQC BK634.out 0).trans rfl, (kQC BK634.out 1).trans rfl⟩ (fun hHeld => ?_)
       clear hK K
       refine norm_ (a' := ?_) ?_ ?_
       rotate_left
       ·show Act.put _ (some 50) _ = _
        simp only [Act.put, qSa, qSb, qSc, i64_w, i32_w]
        rfl
       refine one_ (i := 3) (N := some 51) #[true, true, true, true, false] rfl rfl (by kernel_rfl) (by decide) (fun K hK => ?_)
       refine goes_ Try.func19 (by kernel_rfl) rfl #[.agg #[.int .i64 t648, .slice Ao45 t649.length co45], .agg #[.int .i64 t660, .slice Ao82 t661.length co82]] (by rfl) rfl rfl (by (try simp only [List.map_toArray, List.map_cons, List.map_nil]); first | done | rfl | (simp only [List.length_drop, List.length_take]; rfl)) ?_
       with_reducible refine (laws_eqMatrix.calls kj24 t648 _ _ t649 t660 _ _ t661 false _ ?side1 ?side2 ?side3 ?side4 A59.out).mono ?_
       (case side1 => repeat (first | exact (Kd.R_reads' HO_653001.out).2.2 | (with_reducible refine Kd.CqA ?_ _) | (with_reducible refine Kd.CqN ?_ _) | (with_reducible refine Kd.CqD ?_)))
       (case side2 => exact (Kd.R_reads' HO_653001.out).2.1)
       (case side3 => repeat (first | exact (Kd.R_reads' HO663.out).2.2 | (with_reducible refine Kd.CqA ?_ _) | (with_reducible refine Kd.CqN ?_ _) | (with_reducible refine Kd.CqD ?_)))
       (case side4 => exact (Kd.R_reads' HO663.out).2.1)
       rintro e w83 ⟨rfl, hb⟩
       refine ⟨_, rfl, ?_⟩
       have n0_ := Aq.mk (Kd.R_below (by (with_reducible repeat (first | apply Kd.RqA | apply Kd.RqN | apply Kd.RqD)); exact HO_653001.out) hb)
       have n1_ := Aq.mk (Kd.R_below (by (with_reducible repeat (first | apply Kd.RqA | apply Kd.RqN | apply Kd.RqD)); exact HO_658001.out) hb)
       have n2_ := Aq.mk (Kd.R_below (by (with_reducible repeat (first | apply Kd.RqA | apply Kd.RqN | apply Kd.RqD)); exact HO663.out) hb)
       have n3_ := Aq.mk (kQB (g := gb634) (o := .cells #[.int .i64 a0_0, .slice A0_1 l0_1.length c0_1] 24 (0, 0)) (by (with_reducible repeat (first | refine kQN ?_ _ | refine kQD ?_ | refine kQA ?_ _)); exact BK634.out) hb)
       have n4_ := Aq.mk (kQB (g := gb635) (o := .cells #[.int .i64 a1_0, .slice A1_1 l1_1.length c1_1] 24 (0, 0)) (by (with_reducible repeat (first | refine kQN ?_ _ | refine kQD ?_ | refine kQA ?_ _)); exact BK635.out) hb)
       have n5_ := Aq.mk (kQB (g := gb652) (o := .cells #[.int .i64 t648, .slice Ao45 t649.length co45] 26 (0, 0)) (by (with_reducible repeat (first | refine kQN ?_ _ | refine kQD ?_ | refine kQA ?_ _)); exact BK652.out) hb)
       have n6_ := Aq.mk (kQB (g := gb657) (o := .cells #[.int .i64 t653, .slice Ao53 t654.length co53] 26 (0, 0)) (by (with_reducible repeat (first | refine kQN ?_ _ | refine kQD ?_ | refine kQA ?_ _)); exact BK657.out) hb)
       have n7_ := Aq.mk (bQT (by repeat (first | (with_reducible first | exact HB.out | apply bQA | apply bQN | apply bQ1 | refine bQS ?_ GE634.out | refine bQS ?_ GE635.out | refine bQS ?_ GE652.out | refine bQS ?_ GE657.out) | exact HB.out)) hb)
       clear HO_653001
       clear HO_658001
       clear HO663
       clear BK634
       clear BK635
       clear BK652
       clear BK657
       clear HB
       have HO_653001 := n0_
       have HO_658001 := n1_
       have HO663 := n2_
       have BK634 := n3_
       have BK635 := n4_
       have BK652 := n5_
       have BK657 := n6_
       have HB := n7_
       clear n0_ n1_ n2_ n3_ n4_ n5_ n6_ n7_
       (try clear hb)
       (try clear hb2)
       (try clear hk)
       (try clear hi)
       refine hK.out _ _ ⟨(kQC BK652.out 0).trans rfl, (kQC BK652.out 1).trans rfl, (kQC BK634.out 0).trans rfl, (kQC BK634.out 1).trans rfl⟩ (fun hHeld => ?_)
       clear hK K
       refine norm_ (a' := ?_) ?_ ?_
       rotate_left
       ·show Act.put _ (some 51) _ = _
        simp only [Act.put, qSa, qSb, qSc, i64_w, i32_w]
        rfl
       refine pure_ (i := 4) (N := some 52) (v := ?_) (a' := ?_) #[true, true, true, true, true] rfl rfl (by kernel_rfl) (fun _ _ _ h => h) (Or.inl ⟨by rfl, ?_⟩) ?_ ?_
       rotate_left
       ·intro w'
        go_simp
        with_reducible rfl
       rotate_left
       ·simp only [Act.put, qSa, qSb, qSc, i64_w, i32_w]
        rfl
       refine done_ (by kernel_rfl) ?_
       try go_wp2
       go_ret
       exact ⟨by first | rfl | (simp [errW_none, errW_some] <;> rfl) | (simp [*, errW_none, errW_some] <;> rfl), by repeat (first | (with_reducible first | exact HB.out | apply bQA | apply bQN | apply bQ1 | refine bQS ?_ GE634.out | refine bQS ?_ GE635.out | refine bQS ?_ GE652.out | refine bQS ?_ GE657.out) | exact HB.out)⟩
end Go.Proofs.Ytbaicdgkpnbipaa.P
