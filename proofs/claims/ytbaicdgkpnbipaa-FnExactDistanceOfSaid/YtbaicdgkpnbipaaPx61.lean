/- Functions of the program and what they tell, as the printing program wrote it. -/
import Derived.Test.YtbaicdgkpnbipaaPx0
import Derived.Test.YtbaicdgkpnbipaaPx5
import Derived.Test.YtbaicdgkpnbipaaPx28
import Derived.Test.YtbaicdgkpnbipaaPx44
namespace Go.Proofs.Ytbaicdgkpnbipaa.P
open Go.Shelf Go.RowKit Go.Proofs.YtbaicdgkpnbipaaW.PrintWords Go.Proofs.YtbaicdgkpnbipaaW.PrintLast Go.Proofs.YtbaicdgkpnbipaaW.PrintMore
attribute [local go_sem] max2_int min2_int max_two min_two max_three min_three max_four min_four
set_option linter.unusedVariables false
set_option linter.unusedSimpArgs false
def laws_FnExactDistanceOf.j0 : Nat → Bool → Int → List Int → Int → List Int → Int → List Int → Int → List Int → Option (Bool)
  | 0, _, _, _, _, _, _, _, _, _ => none
  | k + 1, x47, x735000, x735001, x736000, x736001, x753000, x753001, x758000, x758001 => if x47 = true then (some false) else ((laws_toMatrix.f k x735000 x735001).bind fun bt760 => ((laws_eqMatrix.f k x753000 x753001 bt760.1 bt760.2).bind fun t764 => (if t764 = true then ((laws_toMatrix.f k x736000 x736001).bind fun bt765 => ((laws_eqMatrix.f k x758000 x758001 bt765.1 bt765.2).bind fun t769 => (if t769 = true then (some true) else (some false)))) else (some false))))
def laws_FnExactDistanceOf.f (k : Nat) (a0_0 : Int) (l0_1 : List Int) (a1_0 : Int) (l1_1 : List Int) : Option (Bool) := (laws_szMatrix.f a0_0 l0_1 1048576).bind fun t736 => (if t736 < 0 then (some true) else ((laws_szMatrix.f a1_0 l1_1 t736).bind fun t737 => (if t737 < 0 then (some true) else ((laws_toMatrix.f k a0_0 l0_1).bind fun bt738 => ((laws_toMatrix.f k a1_0 l1_1).bind fun bt742 => ((spec_DistanceOf.f k bt738.1 bt738.2 bt742.1 bt742.2).bind fun bt746 => ((laws_toMatrix.f k a0_0 l0_1).bind fun bt748 => ((laws_toMatrix.f k a1_0 l1_1).bind fun bt753 => ((impl_DistanceOf.f k bt748.1 bt748.2 bt753.1 bt753.2).bind fun bt758 => (if bt758.1 = bt746.1 then (laws_FnExactDistanceOf.j0 k (bt758.2 != bt746.2) a0_0 l0_1 a1_0 l1_1 bt748.1 bt748.2 bt753.1 bt753.2) else (laws_FnExactDistanceOf.j0 k true a0_0 l0_1 a1_0 l1_1 bt748.1 bt748.2 bt753.1 bt753.2)))))))))))
theorem laws_FnExactDistanceOf.mono_l : ∀ k, (∀ y0 y1 y2 y3 y4 y5 y6 y7 y8, LeO (laws_FnExactDistanceOf.j0 k y0 y1 y2 y3 y4 y5 y6 y7 y8) (laws_FnExactDistanceOf.j0 (k + 1) y0 y1 y2 y3 y4 y5 y6 y7 y8))
 | 0 => fun _ _ _ _ _ _ _ _ _ r h => by simp [laws_FnExactDistanceOf.j0] at h
 | k + 1 => by
  have ih0 := laws_FnExactDistanceOf.mono_l k
  ·intro y0 y1 y2 y3 y4 y5 y6 y7 y8
   unfold laws_FnExactDistanceOf.j0
   repeat' first
   | (with_reducible first | exact ih0 _ _ _ _ _ _ _ _ _ | exact impl_DistanceOf.mono _ _ _ _ _ | exact laws_eqMatrix.mono _ _ _ _ _ | exact laws_toMatrix.mono _ _ _ | exact spec_DistanceOf.mono _ _ _ _ _ | exact LeO.refl _ | exact LeO.none _ | refine LeO.ite ?_ ?_ | refine LeO.bind ?_ (fun _ => ?_))
   | exact LeO.none _
   | refine LeO.ite ?_ ?_
   | refine LeO.bind ?_ (fun _ => ?_)
theorem laws_FnExactDistanceOf.mono : ∀ a0 a1 a2 a3 k, LeO (laws_FnExactDistanceOf.f k a0 a1 a2 a3) (laws_FnExactDistanceOf.f (k + 1) a0 a1 a2 a3) := by
 intro a0 a1 a2 a3 k
 have ih0 := laws_FnExactDistanceOf.mono_l k
 unfold laws_FnExactDistanceOf.f
 repeat' first
  | (with_reducible first | exact ih0 _ _ _ _ _ _ _ _ _ | exact impl_DistanceOf.mono _ _ _ _ _ | exact laws_eqMatrix.mono _ _ _ _ _ | exact laws_toMatrix.mono _ _ _ | exact spec_DistanceOf.mono _ _ _ _ _ | exact LeO.refl _ | exact LeO.none _ | refine LeO.ite ?_ ?_ | refine LeO.bind ?_ (fun _ => ?_))
  | exact LeO.none _
  | refine LeO.ite ?_ ?_
  | refine LeO.bind ?_ (fun _ => ?_)
def laws_FnExactDistanceOf.T8 : Bool × List (List Nat × List Nat) := (true, [([], []), ([0], [0]), ([], []), ([2, 1], [2]), ([1, 3, 3], [1, 3]), ([4], [4]), ([5], [5]), ([5], [5]), ([6, 4, 0, 1, 2, 3, 4, 5, 6], [6]), ([7, 8, 0, 1, 2, 3, 4, 5, 6, 7, 8], [7])])
def laws_FnExactDistanceOf.B8 : List Nat := [0, 1, 0, 7, 15, 31, 63, 63, 127, 511]
theorem laws_FnExactDistanceOf.tab8 : rtab .any (opsOf Try.f8 8) = laws_FnExactDistanceOf.T8 := by kernel_rfl
theorem laws_FnExactDistanceOf.bits8 : waitsOk laws_FnExactDistanceOf.T8.2 laws_FnExactDistanceOf.B8 = true := by kernel_rfl
set_option maxHeartbeats 8000000 in
set_option maxRecDepth 100000 in
theorem laws_FnExactDistanceOf.calls (k : Nat) (a0_0 : Int) (A0_1 : Option Addr) (c0_1 : Nat) (l0_1 : List Int) (a1_0 : Int) (A1_1 : Option Addr) (c1_1 : Nat) (l1_1 : List Int) (r : Bool) (w : World) (hr0_1 : Kd.C (Kd.int .i64) w A0_1 l0_1.length l0_1) (hc0_1 : l0_1.length ≤ c0_1) (hr1_1 : Kd.C (Kd.int .i64) w A1_1 l1_1.length l1_1) (hc1_1 : l1_1.length ≤ c1_1) (h : laws_FnExactDistanceOf.f k a0_0 l0_1 a1_0 l1_1 = some r) :
 Calls Try.prog 8 #[.agg #[.int .i64 a0_0, .slice A0_1 l0_1.length c0_1], .agg #[.int .i64 a1_0, .slice A1_1 l1_1.length c1_1]] w fun e w' => e = .returned (.bool r) ∧ Below w.heap.size w w' := by
 have hu24 := Try.underlying24
 have hu26 := Try.underlying26
 have HR0_1 := Aq.mk hr0_1
 have HC0_1 := Aq.mk hc0_1
 clear hr0_1 hc0_1
 have HR1_1 := Aq.mk hr1_1
 have HC1_1 := Aq.mk hc1_1
 clear hr1_1 hc1_1
 have HB := Aq.mk (Below.refl w.heap.size w)
 have H : ((laws_szMatrix.f a0_0 l0_1 1048576).bind fun t736 => (if t736 < 0 then (some true) else ((laws_szMatrix.f a1_0 l1_1 t736).bind fun t737 => (if t737 < 0 then (some true) else ((laws_toMatrix.f k a0_0 l0_1).bind fun bt738 => ((laws_toMatrix.f k a1_0 l1_1).bind fun bt742 => ((spec_DistanceOf.f k bt738.1 bt738.2 bt742.1 bt742.2).bind fun bt746 => ((laws_toMatrix.f k a0_0 l0_1).bind fun bt748 => ((laws_toMatrix.f k a1_0 l1_1).bind fun bt753 => ((impl_DistanceOf.f k bt748.1 bt748.2 bt753.1 bt753.2).bind fun bt758 => (if bt758.1 = bt746.1 then (laws_FnExactDistanceOf.j0 k (bt758.2 != bt746.2) a0_0 l0_1 a1_0 l1_1 bt748.1 bt748.2 bt753.1 bt753.2) else (laws_FnExactDistanceOf.j0 k true a0_0 l0_1 a1_0 l1_1 bt748.1 bt748.2 bt753.1 bt753.2)))))))))))) = some r := h
 clear h
 replace H := Option.bind_eq_some_iff.mp H
 obtain ⟨t736, A30, H⟩ := H
 replace H : (if t736 < 0 then (some true) else ((laws_szMatrix.f a1_0 l1_1 t736).bind fun t737 => (if t737 < 0 then (some true) else ((laws_toMatrix.f k a0_0 l0_1).bind fun bt738 => ((laws_toMatrix.f k a1_0 l1_1).bind fun bt742 => ((spec_DistanceOf.f k bt738.1 bt738.2 bt742.1 bt742.2).bind fun bt746 => ((laws_toMatrix.f k a0_0 l0_1).bind fun bt748 => ((laws_toMatrix.f k a1_0 l1_1).bind fun bt753 => ((impl_DistanceOf.f k bt748.1 bt748.2 bt753.1 bt753.2).bind fun bt758 => (if bt758.1 = bt746.1 then (laws_FnExactDistanceOf.j0 k (bt758.2 != bt746.2) a0_0 l0_1 a1_0 l1_1 bt748.1 bt748.2 bt753.1 bt753.2) else (laws_FnExactDistanceOf.j0 k true a0_0 l0_1 a1_0 l1_1 bt748.1 bt748.2 bt753.1 bt753.2))))))))))) = some r := H
 have A3 := Aq.mk A30
 clear A30
 by_cases c4 : t736 < 0
 ·rw [if_pos c4] at H
  have c4b0 : decide (t736 < 0) = true := decide_eq_true c4
  clear c4
  obtain rfl := Option.some.inj H
  go_enter Try.func8, Try.ntmps8
  go_wp2_with (first | ((with_reducible refine gQd (N := 2) rfl ?_); refine xQe ?hg (N := 2) ?hd (cs := #[.int .i64 a0_0, .slice A0_1 l0_1.length c0_1]) (t := 24) ?hr ?_; (case hd => rfl); (case hg => rfl); (case hr => first | (go_simp; done) | (go_simp; rfl)); intro gb734 hg w5 hbox hb; have n0_ := Aq.mk (bQT (by repeat (first | (with_reducible first | exact HB.out | apply bQA | apply bQN | apply bQ1) | exact HB.out)) hb); have n1_ := Aq.mk (hbox); have n2_ := Aq.mk ((by rw [hg]; exact (bQZ (by repeat (first | (with_reducible first | exact HB.out | apply bQA | apply bQN | apply bQ1) | exact HB.out))) : w.heap.size ≤ gb734)); have n3_ := Aq.mk ((by rw [hg]; exact (bQZ (by repeat (first | (with_reducible first | exact HB.out | apply bQA | apply bQN | apply bQ1) | exact HB.out))) : w.heap.size ≤ gb734)); clear HB; have HB := n0_; have BK734 := n1_; have GW734 := n2_; have GE734 := n3_; clear n0_ n1_ n2_ n3_; clear hb hbox hg) | ((with_reducible refine gQd (N := 3) rfl ?_); refine xQe ?hg (N := 3) ?hd (cs := #[.int .i64 a1_0, .slice A1_1 l1_1.length c1_1]) (t := 24) ?hr ?_; (case hd => rfl); (case hg => rfl); (case hr => first | (go_simp; done) | (go_simp; rfl)); intro gb735 hg w6 hbox hb; have n0_ := Aq.mk (kQB (g := gb734) (o := .cells #[.int .i64 a0_0, .slice A0_1 l0_1.length c0_1] 24 (0, 0)) (by (with_reducible repeat (first | refine kQN ?_ _ | refine kQD ?_ | refine kQA ?_ _)); exact BK734.out) hb); have n1_ := Aq.mk (bQT (by repeat (first | (with_reducible first | exact HB.out | apply bQA | apply bQN | apply bQ1 | refine bQS ?_ GE734.out) | exact HB.out)) hb); have n2_ := Aq.mk (hbox); have n3_ := Aq.mk ((by rw [hg]; exact (bQZ (by repeat (first | (with_reducible first | exact HB.out | apply bQA | apply bQN | apply bQ1 | refine bQS ?_ GE734.out) | exact HB.out))) : w.heap.size ≤ gb735)); have n4_ := Aq.mk ((by rw [hg]; exact (bQZ (by repeat (first | (with_reducible first | exact HB.out | apply bQA | apply bQN | apply bQ1 | refine bQS ?_ GE734.out) | exact HB.out))) : w.heap.size ≤ gb735)); have n5_ := Aq.mk ((by rw [hg]; exact Nat.ne_of_lt (blk_lt (g := gb734) (o := .cells #[.int .i64 a0_0, .slice A0_1 l0_1.length c0_1] 24 (0, 0)) (by (with_reducible repeat (first | refine kQN ?_ _ | refine kQD ?_ | refine kQA ?_ _)); exact BK734.out)) : gb734 ≠ gb735)); have n6_ := Aq.mk ((by rw [hg]; exact Nat.ne_of_gt (blk_lt (g := gb734) (o := .cells #[.int .i64 a0_0, .slice A0_1 l0_1.length c0_1] 24 (0, 0)) (by (with_reducible repeat (first | refine kQN ?_ _ | refine kQD ?_ | refine kQA ?_ _)); exact BK734.out)) : gb735 ≠ gb734)); clear BK734; clear HB; have BK734 := n0_; have HB := n1_; have BK735 := n2_; have GW735 := n3_; have GE735 := n4_; have NB734_735 := n5_; have NB735_734 := n6_; clear n0_ n1_ n2_ n3_ n4_ n5_ n6_; clear hb hbox hg; have hnb7 := NB734_735.out; have hnc7 := NB735_734.out; have hcz8_0 : w6.cell? ⟨gb734, 0, none⟩ = some (.int .i64 a0_0) := (kQC BK734.out 0).trans rfl; have hcz8_1 : w6.cell? ⟨gb734, 1, none⟩ = some (.slice A0_1 l0_1.length c0_1) := (kQC BK734.out 1).trans rfl; have hfz8_0 := kQF BK734.out 0; have hfz8_1 := kQF BK734.out 1) | ((with_reducible refine gQc (f := 15) rfl ?_); refine goesL_ (some 14) rfl rfl Try.func15 (by kernel_rfl) rfl #[.agg #[.int .i64 a0_0, .slice A0_1 l0_1.length c0_1], .int .i64 1048576] rfl (by (try simp only [List.map_toArray, List.map_cons, List.map_nil]); first | done | rfl | (simp only [List.length_drop, List.length_take]; rfl)) ?_; (with_reducible refine (laws_szMatrix.calls a0_0 _ _ l0_1 1048576 t736 _ ?side1 ?side2 A3.out).mono ?_); (case side1 => repeat (first | exact (Kd.C_below HR0_1.out HB.out) | (with_reducible refine Kd.CqA ?_ _) | (with_reducible refine Kd.CqN ?_ _) | (with_reducible refine Kd.CqD ?_))); (case side2 => exact HC0_1.out); rintro e w9 ⟨rfl, hb⟩; refine ⟨_, rfl, ?_⟩; have n0_ := Aq.mk (kQB (g := gb734) (o := .cells #[.int .i64 a0_0, .slice A0_1 l0_1.length c0_1] 24 (0, 0)) (by (with_reducible repeat (first | refine kQN ?_ _ | refine kQD ?_ | refine kQA ?_ _)); exact BK734.out) hb); have n1_ := Aq.mk (kQB (g := gb735) (o := .cells #[.int .i64 a1_0, .slice A1_1 l1_1.length c1_1] 24 (0, 0)) (by (with_reducible repeat (first | refine kQN ?_ _ | refine kQD ?_ | refine kQA ?_ _)); exact BK735.out) hb); have n2_ := Aq.mk (bQT (by repeat (first | (with_reducible first | exact HB.out | apply bQA | apply bQN | apply bQ1 | refine bQS ?_ GE734.out | refine bQS ?_ GE735.out) | exact HB.out)) hb); clear BK734; clear BK735; clear HB; have BK734 := n0_; have BK735 := n1_; have HB := n2_; clear n0_ n1_ n2_; (try clear hb); (try clear hb2); (try clear hk); (try clear hi)))
  go_ret
  exact ⟨by first | rfl | (simp [errW_none, errW_some] <;> rfl) | (simp [*, errW_none, errW_some] <;> rfl), by repeat (first | (with_reducible first | exact HB.out | apply bQA | apply bQN | apply bQ1 | refine bQS ?_ GE734.out | refine bQS ?_ GE735.out) | exact HB.out)⟩
 ·rw [if_neg c4] at H
  have c4b0 : decide (t736 < 0) = false := decide_eq_false c4
  clear c4
  replace H := Option.bind_eq_some_iff.mp H
  obtain ⟨t737, A100, H⟩ := H
  replace H : (if t737 < 0 then (some true) else ((laws_toMatrix.f k a0_0 l0_1).bind fun bt738 => ((laws_toMatrix.f k a1_0 l1_1).bind fun bt742 => ((spec_DistanceOf.f k bt738.1 bt738.2 bt742.1 bt742.2).bind fun bt746 => ((laws_toMatrix.f k a0_0 l0_1).bind fun bt748 => ((laws_toMatrix.f k a1_0 l1_1).bind fun bt753 => ((impl_DistanceOf.f k bt748.1 bt748.2 bt753.1 bt753.2).bind fun bt758 => (if bt758.1 = bt746.1 then (laws_FnExactDistanceOf.j0 k (bt758.2 != bt746.2) a0_0 l0_1 a1_0 l1_1 bt748.1 bt748.2 bt753.1 bt753.2) else (laws_FnExactDistanceOf.j0 k true a0_0 l0_1 a1_0 l1_1 bt748.1 bt748.2 bt753.1 bt753.2))))))))) = some r := H
  have A10 := Aq.mk A100
  clear A100
  by_cases c11 : t737 < 0
  ·rw [if_pos c11] at H
   have c11b0 : decide (t737 < 0) = true := decide_eq_true c11
   clear c11
   obtain rfl := Option.some.inj H
   go_enter Try.func8, Try.ntmps8
   go_wp2_with (first | ((with_reducible refine gQd (N := 2) rfl ?_); refine xQe ?hg (N := 2) ?hd (cs := #[.int .i64 a0_0, .slice A0_1 l0_1.length c0_1]) (t := 24) ?hr ?_; (case hd => rfl); (case hg => rfl); (case hr => first | (go_simp; done) | (go_simp; rfl)); intro gb734 hg w12 hbox hb; have n0_ := Aq.mk (bQT (by repeat (first | (with_reducible first | exact HB.out | apply bQA | apply bQN | apply bQ1) | exact HB.out)) hb); have n1_ := Aq.mk (hbox); have n2_ := Aq.mk ((by rw [hg]; exact (bQZ (by repeat (first | (with_reducible first | exact HB.out | apply bQA | apply bQN | apply bQ1) | exact HB.out))) : w.heap.size ≤ gb734)); have n3_ := Aq.mk ((by rw [hg]; exact (bQZ (by repeat (first | (with_reducible first | exact HB.out | apply bQA | apply bQN | apply bQ1) | exact HB.out))) : w.heap.size ≤ gb734)); clear HB; have HB := n0_; have BK734 := n1_; have GW734 := n2_; have GE734 := n3_; clear n0_ n1_ n2_ n3_; clear hb hbox hg) | ((with_reducible refine gQd (N := 3) rfl ?_); refine xQe ?hg (N := 3) ?hd (cs := #[.int .i64 a1_0, .slice A1_1 l1_1.length c1_1]) (t := 24) ?hr ?_; (case hd => rfl); (case hg => rfl); (case hr => first | (go_simp; done) | (go_simp; rfl)); intro gb735 hg w13 hbox hb; have n0_ := Aq.mk (kQB (g := gb734) (o := .cells #[.int .i64 a0_0, .slice A0_1 l0_1.length c0_1] 24 (0, 0)) (by (with_reducible repeat (first | refine kQN ?_ _ | refine kQD ?_ | refine kQA ?_ _)); exact BK734.out) hb); have n1_ := Aq.mk (bQT (by repeat (first | (with_reducible first | exact HB.out | apply bQA | apply bQN | apply bQ1 | refine bQS ?_ GE734.out) | exact HB.out)) hb); have n2_ := Aq.mk (hbox); have n3_ := Aq.mk ((by rw [hg]; exact (bQZ (by repeat (first | (with_reducible first | exact HB.out | apply bQA | apply bQN | apply bQ1 | refine bQS ?_ GE734.out) | exact HB.out))) : w.heap.size ≤ gb735)); have n4_ := Aq.mk ((by rw [hg]; exact (bQZ (by repeat (first | (with_reducible first | exact HB.out | apply bQA | apply bQN | apply bQ1 | refine bQS ?_ GE734.out) | exact HB.out))) : w.heap.size ≤ gb735)); have n5_ := Aq.mk ((by rw [hg]; exact Nat.ne_of_lt (blk_lt (g := gb734) (o := .cells #[.int .i64 a0_0, .slice A0_1 l0_1.length c0_1] 24 (0, 0)) (by (with_reducible repeat (first | refine kQN ?_ _ | refine kQD ?_ | refine kQA ?_ _)); exact BK734.out)) : gb734 ≠ gb735)); have n6_ := Aq.mk ((by rw [hg]; exact Nat.ne_of_gt (blk_lt (g := gb734) (o := .cells #[.int .i64 a0_0, .slice A0_1 l0_1.length c0_1] 24 (0, 0)) (by (with_reducible repeat (first | refine kQN ?_ _ | refine kQD ?_ | refine kQA ?_ _)); exact BK734.out)) : gb735 ≠ gb734)); clear BK734; clear HB; have BK734 := n0_; have HB := n1_; have BK735 := n2_; have GW735 := n3_; have GE735 := n4_; have NB734_735 := n5_; have NB735_734 := n6_; clear n0_ n1_ n2_ n3_ n4_ n5_ n6_; clear hb hbox hg; have hnb14 := NB734_735.out; have hnc14 := NB735_734.out; have hcz15_0 : w13.cell? ⟨gb734, 0, none⟩ = some (.int .i64 a0_0) := (kQC BK734.out 0).trans rfl; have hcz15_1 : w13.cell? ⟨gb734, 1, none⟩ = some (.slice A0_1 l0_1.length c0_1) := (kQC BK734.out 1).trans rfl; have hfz15_0 := kQF BK734.out 0; have hfz15_1 := kQF BK734.out 1) | ((with_reducible refine gQc (f := 15) rfl ?_); refine goesL_ (some 14) rfl rfl Try.func15 (by kernel_rfl) rfl #[.agg #[.int .i64 a0_0, .slice A0_1 l0_1.length c0_1], .int .i64 1048576] rfl (by (try simp only [List.map_toArray, List.map_cons, List.map_nil]); first | done | rfl | (simp only [List.length_drop, List.length_take]; rfl)) ?_; (with_reducible refine (laws_szMatrix.calls a0_0 _ _ l0_1 1048576 t736 _ ?side1 ?side2 A3.out).mono ?_); (case side1 => repeat (first | exact (Kd.C_below HR0_1.out HB.out) | (with_reducible refine Kd.CqA ?_ _) | (with_reducible refine Kd.CqN ?_ _) | (with_reducible refine Kd.CqD ?_))); (case side2 => exact HC0_1.out); rintro e w16 ⟨rfl, hb⟩; refine ⟨_, rfl, ?_⟩; have n0_ := Aq.mk (kQB (g := gb734) (o := .cells #[.int .i64 a0_0, .slice A0_1 l0_1.length c0_1] 24 (0, 0)) (by (with_reducible repeat (first | refine kQN ?_ _ | refine kQD ?_ | refine kQA ?_ _)); exact BK734.out) hb); have n1_ := Aq.mk (kQB (g := gb735) (o := .cells #[.int .i64 a1_0, .slice A1_1 l1_1.length c1_1] 24 (0, 0)) (by (with_reducible repeat (first | refine kQN ?_ _ | refine kQD ?_ | refine kQA ?_ _)); exact BK735.out) hb); have n2_ := Aq.mk (bQT (by repeat (first | (with_reducible first | exact HB.out | apply bQA | apply bQN | apply bQ1 | refine bQS ?_ GE734.out | refine bQS ?_ GE735.out) | exact HB.out)) hb); clear BK734; clear BK735; clear HB; have BK734 := n0_; have BK735 := n1_; have HB := n2_; clear n0_ n1_ n2_; (try clear hb); (try clear hb2); (try clear hk); (try clear hi); have hcz17_0 : w16.cell? ⟨gb735, 0, none⟩ = some (.int .i64 a1_0) := (kQC BK735.out 0).trans rfl; have hcz17_1 : w16.cell? ⟨gb735, 1, none⟩ = some (.slice A1_1 l1_1.length c1_1) := (kQC BK735.out 1).trans rfl; have hfz17_0 := kQF BK735.out 0; have hfz17_1 := kQF BK735.out 1) | ((with_reducible refine gQc (f := 15) rfl ?_); refine goesL_ (some 19) rfl rfl Try.func15 (by kernel_rfl) rfl #[.agg #[.int .i64 a1_0, .slice A1_1 l1_1.length c1_1], .int .i64 t736] rfl (by (try simp only [List.map_toArray, List.map_cons, List.map_nil]); first | done | rfl | (simp only [List.length_drop, List.length_take]; rfl)) ?_; (with_reducible refine (laws_szMatrix.calls a1_0 _ _ l1_1 t736 t737 _ ?side1 ?side2 A10.out).mono ?_); (case side1 => repeat (first | exact (Kd.C_below HR1_1.out HB.out) | (with_reducible refine Kd.CqA ?_ _) | (with_reducible refine Kd.CqN ?_ _) | (with_reducible refine Kd.CqD ?_))); (case side2 => exact HC1_1.out); rintro e w18 ⟨rfl, hb⟩; refine ⟨_, rfl, ?_⟩; have n0_ := Aq.mk (kQB (g := gb734) (o := .cells #[.int .i64 a0_0, .slice A0_1 l0_1.length c0_1] 24 (0, 0)) (by (with_reducible repeat (first | refine kQN ?_ _ | refine kQD ?_ | refine kQA ?_ _)); exact BK734.out) hb); have n1_ := Aq.mk (kQB (g := gb735) (o := .cells #[.int .i64 a1_0, .slice A1_1 l1_1.length c1_1] 24 (0, 0)) (by (with_reducible repeat (first | refine kQN ?_ _ | refine kQD ?_ | refine kQA ?_ _)); exact BK735.out) hb); have n2_ := Aq.mk (bQT (by repeat (first | (with_reducible first | exact HB.out | apply bQA | apply bQN | apply bQ1 | refine bQS ?_ GE734.out | refine bQS ?_ GE735.out) | exact HB.out)) hb); clear BK734; clear BK735; clear HB; have BK734 := n0_; have BK735 := n1_; have HB := n2_; clear n0_ n1_ n2_; (try clear hb); (try clear hb2); (try clear hk); (try clear hi)))
   go_ret
   exact ⟨by first | rfl | (simp [errW_none, errW_some] <;> rfl) | (simp [*, errW_none, errW_some] <;> rfl), by repeat (first | (with_reducible first | exact HB.out | apply bQA | apply bQN | apply bQ1 | refine bQS ?_ GE734.out | refine bQS ?_ GE735.out) | exact HB.out)⟩
  ·rw [if_neg c11] at H
   have c11b0 : decide (t737 < 0) = false := decide_eq_false c11
   clear c11
   replace H := Option.bind_eq_some_iff.mp H
   obtain ⟨⟨t738, t739⟩, A190, H⟩ := H
   replace H : ((laws_toMatrix.f k a1_0 l1_1).bind fun bt742 => ((spec_DistanceOf.f k t738 t739 bt742.1 bt742.2).bind fun bt746 => ((laws_toMatrix.f k a0_0 l0_1).bind fun bt748 => ((laws_toMatrix.f k a1_0 l1_1).bind fun bt753 => ((impl_DistanceOf.f k bt748.1 bt748.2 bt753.1 bt753.2).bind fun bt758 => (if bt758.1 = bt746.1 then (laws_FnExactDistanceOf.j0 k (bt758.2 != bt746.2) a0_0 l0_1 a1_0 l1_1 bt748.1 bt748.2 bt753.1 bt753.2) else (laws_FnExactDistanceOf.j0 k true a0_0 l0_1 a1_0 l1_1 bt748.1 bt748.2 bt753.1 bt753.2))))))) = some r := H
   have A19 := Aq.mk A190
   clear A190
   replace H := Option.bind_eq_some_iff.mp H
   obtain ⟨⟨t742, t743⟩, A200, H⟩ := H
   replace H : ((spec_DistanceOf.f k t738 t739 t742 t743).bind fun bt746 => ((laws_toMatrix.f k a0_0 l0_1).bind fun bt748 => ((laws_toMatrix.f k a1_0 l1_1).bind fun bt753 => ((impl_DistanceOf.f k bt748.1 bt748.2 bt753.1 bt753.2).bind fun bt758 => (if bt758.1 = bt746.1 then (laws_FnExactDistanceOf.j0 k (bt758.2 != bt746.2) a0_0 l0_1 a1_0 l1_1 bt748.1 bt748.2 bt753.1 bt753.2) else (laws_FnExactDistanceOf.j0 k true a0_0 l0_1 a1_0 l1_1 bt748.1 bt748.2 bt753.1 bt753.2)))))) = some r := H
   have A20 := Aq.mk A200
   clear A200
   replace H := Option.bind_eq_some_iff.mp H
   obtain ⟨⟨t746, t747⟩, A210, H⟩ := H
   replace H : ((laws_toMatrix.f k a0_0 l0_1).bind fun bt748 => ((laws_toMatrix.f k a1_0 l1_1).bind fun bt753 => ((impl_DistanceOf.f k bt748.1 bt748.2 bt753.1 bt753.2).bind fun bt758 => (if bt758.1 = t746 then (laws_FnExactDistanceOf.j0 k (bt758.2 != t747) a0_0 l0_1 a1_0 l1_1 bt748.1 bt748.2 bt753.1 bt753.2) else (laws_FnExactDistanceOf.j0 k true a0_0 l0_1 a1_0 l1_1 bt748.1 bt748.2 bt753.1 bt753.2))))) = some r := H
   have A21 := Aq.mk A210
   clear A210
   replace H := Option.bind_eq_some_iff.mp H
   obtain ⟨⟨t748, t749⟩, A220, H⟩ := H
   replace H : ((laws_toMatrix.f k a1_0 l1_1).bind fun bt753 => ((impl_DistanceOf.f k t748 t749 bt753.1 bt753.2).bind fun bt758 => (if bt758.1 = t746 then (laws_FnExactDistanceOf.j0 k (bt758.2 != t747) a0_0 l0_1 a1_0 l1_1 t748 t749 bt753.1 bt753.2) else (laws_FnExactDistanceOf.j0 k true a0_0 l0_1 a1_0 l1_1 t748 t749 bt753.1 bt753.2)))) = some r := H
   have A22 := Aq.mk A220
   clear A220
   replace H := Option.bind_eq_some_iff.mp H
   obtain ⟨⟨t753, t754⟩, A230, H⟩ := H
   replace H : ((impl_DistanceOf.f k t748 t749 t753 t754).bind fun bt758 => (if bt758.1 = t746 then (laws_FnExactDistanceOf.j0 k (bt758.2 != t747) a0_0 l0_1 a1_0 l1_1 t748 t749 t753 t754) else (laws_FnExactDistanceOf.j0 k true a0_0 l0_1 a1_0 l1_1 t748 t749 t753 t754))) = some r := H
   have A23 := Aq.mk A230
   clear A230
   replace H := Option.bind_eq_some_iff.mp H
   obtain ⟨⟨t758, t759⟩, A240, H⟩ := H
   replace H : (if t758 = t746 then (laws_FnExactDistanceOf.j0 k (t759 != t747) a0_0 l0_1 a1_0 l1_1 t748 t749 t753 t754) else (laws_FnExactDistanceOf.j0 k true a0_0 l0_1 a1_0 l1_1 t748 t749 t753 t754)) = some r := H
   have A24 := Aq.mk A240
   clear A240
   have HC25 := Aq.mk H
   clear H
   go_enter Try.func8, Try.ntmps8
   try go_wp2_with (first | ((with_reducible refine gQd (N := 2) rfl ?_); refine xQe ?hg (N := 2) ?hd (cs := #[.int .i64 a0_0, .slice A0_1 l0_1.length c0_1]) (t := 24) ?hr ?_; (case hd => rfl); (case hg => rfl); (case hr => first | (go_simp; done) | (go_simp; rfl)); intro gb734 hg w26 hbox hb; have n0_ := Aq.mk (bQT (by repeat (first | (with_reducible first | exact HB.out | apply bQA | apply bQN | apply bQ1) | exact HB.out)) hb); have n1_ := Aq.mk (hbox); have n2_ := Aq.mk ((by rw [hg]; exact (bQZ (by repeat (first | (with_reducible first | exact HB.out | apply bQA | apply bQN | apply bQ1) | exact HB.out))) : w.heap.size ≤ gb734)); have n3_ := Aq.mk ((by rw [hg]; exact (bQZ (by repeat (first | (with_reducible first | exact HB.out | apply bQA | apply bQN | apply bQ1) | exact HB.out))) : w.heap.size ≤ gb734)); clear HB; have HB := n0_; have BK734 := n1_; have GW734 := n2_; have GE734 := n3_; clear n0_ n1_ n2_ n3_; clear hb hbox hg) | ((with_reducible refine gQd (N := 3) rfl ?_); refine xQe ?hg (N := 3) ?hd (cs := #[.int .i64 a1_0, .slice A1_1 l1_1.length c1_1]) (t := 24) ?hr ?_; (case hd => rfl); (case hg => rfl); (case hr => first | (go_simp; done) | (go_simp; rfl)); intro gb735 hg w27 hbox hb; have n0_ := Aq.mk (kQB (g := gb734) (o := .cells #[.int .i64 a0_0, .slice A0_1 l0_1.length c0_1] 24 (0, 0)) (by (with_reducible repeat (first | refine kQN ?_ _ | refine kQD ?_ | refine kQA ?_ _)); exact BK734.out) hb); have n1_ := Aq.mk (bQT (by repeat (first | (with_reducible first | exact HB.out | apply bQA | apply bQN | apply bQ1 | refine bQS ?_ GE734.out) | exact HB.out)) hb); have n2_ := Aq.mk (hbox); have n3_ := Aq.mk ((by rw [hg]; exact (bQZ (by repeat (first | (with_reducible first | exact HB.out | apply bQA | apply bQN | apply bQ1 | refine bQS ?_ GE734.out) | exact HB.out))) : w.heap.size ≤ gb735)); have n4_ := Aq.mk ((by rw [hg]; exact (bQZ (by repeat (first | (with_reducible first | exact HB.out | apply bQA | apply bQN | apply bQ1 | refine bQS ?_ GE734.out) | exact HB.out))) : w.heap.size ≤ gb735)); have n5_ := Aq.mk ((by rw [hg]; exact Nat.ne_of_lt (blk_lt (g := gb734) (o := .cells #[.int .i64 a0_0, .slice A0_1 l0_1.length c0_1] 24 (0, 0)) (by (with_reducible repeat (first | refine kQN ?_ _ | refine kQD ?_ | refine kQA ?_ _)); exact BK734.out)) : gb734 ≠ gb735)); have n6_ := Aq.mk ((by rw [hg]; exact Nat.ne_of_gt (blk_lt (g := gb734) (o := .cells #[.int .i64 a0_0, .slice A0_1 l0_1.length c0_1] 24 (0, 0)) (by (with_reducible repeat (first | refine kQN ?_ _ | refine kQD ?_ | refine kQA ?_ _)); exact BK734.out)) : gb735 ≠ gb734)); clear BK734; clear HB; have BK734 := n0_; have HB := n1_; have BK735 := n2_; have GW735 := n3_; have GE735 := n4_; have NB734_735 := n5_; have NB735_734 := n6_; clear n0_ n1_ n2_ n3_ n4_ n5_ n6_; clear hb hbox hg; have hnb28 := NB734_735.out; have hnc28 := NB735_734.out; have hcz29_0 : w27.cell? ⟨gb734, 0, none⟩ = some (.int .i64 a0_0) := (kQC BK734.out 0).trans rfl; have hcz29_1 : w27.cell? ⟨gb734, 1, none⟩ = some (.slice A0_1 l0_1.length c0_1) := (kQC BK734.out 1).trans rfl; have hfz29_0 := kQF BK734.out 0; have hfz29_1 := kQF BK734.out 1) | ((with_reducible refine gQc (f := 15) rfl ?_); refine goesL_ (some 14) rfl rfl Try.func15 (by kernel_rfl) rfl #[.agg #[.int .i64 a0_0, .slice A0_1 l0_1.length c0_1], .int .i64 1048576] rfl (by (try simp only [List.map_toArray, List.map_cons, List.map_nil]); first | done | rfl | (simp only [List.length_drop, List.length_take]; rfl)) ?_; (with_reducible refine (laws_szMatrix.calls a0_0 _ _ l0_1 1048576 t736 _ ?side1 ?side2 A3.out).mono ?_); (case side1 => repeat (first | exact (Kd.C_below HR0_1.out HB.out) | (with_reducible refine Kd.CqA ?_ _) | (with_reducible refine Kd.CqN ?_ _) | (with_reducible refine Kd.CqD ?_))); (case side2 => exact HC0_1.out); rintro e w30 ⟨rfl, hb⟩; refine ⟨_, rfl, ?_⟩; have n0_ := Aq.mk (kQB (g := gb734) (o := .cells #[.int .i64 a0_0, .slice A0_1 l0_1.length c0_1] 24 (0, 0)) (by (with_reducible repeat (first | refine kQN ?_ _ | refine kQD ?_ | refine kQA ?_ _)); exact BK734.out) hb); have n1_ := Aq.mk (kQB (g := gb735) (o := .cells #[.int .i64 a1_0, .slice A1_1 l1_1.length c1_1] 24 (0, 0)) (by (with_reducible repeat (first | refine kQN ?_ _ | refine kQD ?_ | refine kQA ?_ _)); exact BK735.out) hb); have n2_ := Aq.mk (bQT (by repeat (first | (with_reducible first | exact HB.out | apply bQA | apply bQN | apply bQ1 | refine bQS ?_ GE734.out | refine bQS ?_ GE735.out) | exact HB.out)) hb); clear BK734; clear BK735; clear HB; have BK734 := n0_; have BK735 := n1_; have HB := n2_; clear n0_ n1_ n2_; (try clear hb); (try clear hb2); (try clear hk); (try clear hi); have hcz31_0 : w30.cell? ⟨gb735, 0, none⟩ = some (.int .i64 a1_0) := (kQC BK735.out 0).trans rfl; have hcz31_1 : w30.cell? ⟨gb735, 1, none⟩ = some (.slice A1_1 l1_1.length c1_1) := (kQC BK735.out 1).trans rfl; have hfz31_0 := kQF BK735.out 0; have hfz31_1 := kQF BK735.out 1) | ((with_reducible refine gQc (f := 15) rfl ?_); refine goesL_ (some 19) rfl rfl Try.func15 (by kernel_rfl) rfl #[.agg #[.int .i64 a1_0, .slice A1_1 l1_1.length c1_1], .int .i64 t736] rfl (by (try simp only [List.map_toArray, List.map_cons, List.map_nil]); first | done | rfl | (simp only [List.length_drop, List.length_take]; rfl)) ?_; (with_reducible refine (laws_szMatrix.calls a1_0 _ _ l1_1 t736 t737 _ ?side1 ?side2 A10.out).mono ?_); (case side1 => repeat (first | exact (Kd.C_below HR1_1.out HB.out) | (with_reducible refine Kd.CqA ?_ _) | (with_reducible refine Kd.CqN ?_ _) | (with_reducible refine Kd.CqD ?_))); (case side2 => exact HC1_1.out); rintro e w32 ⟨rfl, hb⟩; refine ⟨_, rfl, ?_⟩; have n0_ := Aq.mk (kQB (g := gb734) (o := .cells #[.int .i64 a0_0, .slice A0_1 l0_1.length c0_1] 24 (0, 0)) (by (with_reducible repeat (first | refine kQN ?_ _ | refine kQD ?_ | refine kQA ?_ _)); exact BK734.out) hb); have n1_ := Aq.mk (kQB (g := gb735) (o := .cells #[.int .i64 a1_0, .slice A1_1 l1_1.length c1_1] 24 (0, 0)) (by (with_reducible repeat (first | refine kQN ?_ _ | refine kQD ?_ | refine kQA ?_ _)); exact BK735.out) hb); have n2_ := Aq.mk (bQT (by repeat (first | (with_reducible first | exact HB.out | apply bQA | apply bQN | apply bQ1 | refine bQS ?_ GE734.out | refine bQS ?_ GE735.out) | exact HB.out)) hb); clear BK734; clear BK735; clear HB; have BK734 := n0_; have BK735 := n1_; have HB := n2_; clear n0_ n1_ n2_; (try clear hb); (try clear hb2); (try clear hk); (try clear hi)))
   have n0_ := Aq.mk (kQD BK734.out)
   have n1_ := Aq.mk (kQD BK735.out)
   have n2_ := Aq.mk (bQ1 HB.out)
   clear BK734
   clear BK735
   clear HB
   have BK734 := n0_
   have BK735 := n1_
   have HB := n2_
   clear n0_ n1_ n2_
   refine start_ (n := 10) (S := fun w' => w'.cell? ⟨gb734, 0, none⟩ = some (.int .i64 a0_0) ∧ w'.cell? ⟨gb734, 1, none⟩ = some (.slice A0_1 l0_1.length c0_1) ∧ w'.cell? ⟨gb735, 0, none⟩ = some (.int .i64 a1_0) ∧ w'.cell? ⟨gb735, 1, none⟩ = some (.slice A1_1 l1_1.length c1_1)) (ds := []) #[false, false, false, false, false, false, false, false, false, false] (by kernel_rfl) rfl rfl ⟨(kQC BK734.out 0).trans rfl, (kQC BK734.out 1).trans rfl, (kQC BK735.out 0).trans rfl, (kQC BK735.out 1).trans rfl⟩ (fun hHeld => ?_); refine with_tabW laws_FnExactDistanceOf.tab8 laws_FnExactDistanceOf.bits8 (fun HT_ HW_ => ?_)
   generalize w32.drew = w33 at BK734 BK735 HB hHeld ⊢
   refine take_ (i := 0) (N := some 23) (v := ?_) (a' := ?_) #[true, false, false, false, false, false, false, false, false, false] rfl rfl (take_ofW HT_.out HW_.out (by kernel_rfl)) (fun _ _ _ h => h) (Or.inl ⟨by rfl, ?_⟩) hHeld ?_ ?_
   rotate_left
   ·rintro w' ⟨s0, s1, s2, s3⟩
    go_simp
    with_reducible rfl
   rotate_left
   ·simp only [Act.put, qSa, qSb, qSc, i64_w, i32_w]
    rfl
   refine take_ (i := 2) (N := some 25) (v := ?_) (a' := ?_) #[true, false, true, false, false, false, false, false, false, false] rfl rfl (take_ofW HT_.out HW_.out (by kernel_rfl)) (fun _ _ _ h => h) (Or.inl ⟨by rfl, ?_⟩) hHeld ?_ ?_
   rotate_left
   ·rintro w' ⟨s0, s1, s2, s3⟩
    go_simp
    with_reducible rfl
   rotate_left
   ·simp only [Act.put, qSa, qSb, qSc, i64_w, i32_w]
    rfl
   refine one_ (i := 1) (N := some 24) #[true, true, true, false, false, false, false, false, false, false] rfl rfl (one_of HT_.out (by kernel_rfl)) (by decide) (fun K hK => ?_)
   refine goes_ Try.func17 (by kernel_rfl) rfl #[.agg #[.int .i64 a0_0, .slice A0_1 l0_1.length c0_1]] (by rfl) rfl rfl (by (try simp only [List.map_toArray, List.map_cons, List.map_nil]); first | done | rfl | (simp only [List.length_drop, List.length_take]; rfl)) ?_
   with_reducible refine (laws_toMatrix.calls k a0_0 _ _ l0_1 t738 t739 _ ?side1 ?side2 A19.out).mono ?_
   (case side1 => repeat (first | exact (Kd.C_below HR0_1.out HB.out) | (with_reducible refine Kd.CqA ?_ _) | (with_reducible refine Kd.CqN ?_ _) | (with_reducible refine Kd.CqD ?_)))
   (case side2 => exact HC0_1.out)
   rintro e w34 ⟨v740, rfl, ho0, hb⟩
   refine ⟨_, rfl, ?_⟩
   have n0_ := Aq.mk (Kd.R_lower ho0 (bQZ (by repeat (first | (with_reducible first | exact HB.out | apply bQA | apply bQN | apply bQ1 | refine bQS ?_ GE734.out | refine bQS ?_ GE735.out) | exact HB.out))))
   have n1_ := Aq.mk (kQB (g := gb734) (o := .cells #[.int .i64 a0_0, .slice A0_1 l0_1.length c0_1] 24 (0, 0)) (by (with_reducible repeat (first | refine kQN ?_ _ | refine kQD ?_ | refine kQA ?_ _)); exact BK734.out) hb)
   have n2_ := Aq.mk (kQB (g := gb735) (o := .cells #[.int .i64 a1_0, .slice A1_1 l1_1.length c1_1] 24 (0, 0)) (by (with_reducible repeat (first | refine kQN ?_ _ | refine kQD ?_ | refine kQA ?_ _)); exact BK735.out) hb)
   have n3_ := Aq.mk (bQT (by repeat (first | (with_reducible first | exact HB.out | apply bQA | apply bQN | apply bQ1 | refine bQS ?_ GE734.out | refine bQS ?_ GE735.out) | exact HB.out)) hb)
   clear BK734
   clear BK735
   clear HB
   have HO741 := n0_
   have BK734 := n1_
   have BK735 := n2_
   have HB := n3_
   clear n0_ n1_ n2_ n3_
   (try clear hb)
   (try clear hb2)
   (try clear hk)
   (try clear hi)
   (try clear ho0)
   refine hK.out _ _ ⟨(kQC BK734.out 0).trans rfl, (kQC BK734.out 1).trans rfl, (kQC BK735.out 0).trans rfl, (kQC BK735.out 1).trans rfl⟩ (fun hHeld => ?_)
   clear hK K
   refine norm_ (a' := ?_) ?_ ?_
   rotate_left
   ·show Act.put _ (some 24) _ = _
    simp only [Act.put, qSa, qSb, qSc, i64_w, i32_w]
    rfl
   refine one_ (i := 3) (N := some 26) #[true, true, true, true, false, false, false, false, false, false] rfl rfl (one_of HT_.out (by kernel_rfl)) (by decide) (fun K hK => ?_)
   refine goes_ Try.func17 (by kernel_rfl) rfl #[.agg #[.int .i64 a1_0, .slice A1_1 l1_1.length c1_1]] (by rfl) rfl rfl (by (try simp only [List.map_toArray, List.map_cons, List.map_nil]); first | done | rfl | (simp only [List.length_drop, List.length_take]; rfl)) ?_
   with_reducible refine (laws_toMatrix.calls k a1_0 _ _ l1_1 t742 t743 _ ?side1 ?side2 A20.out).mono ?_
   (case side1 => repeat (first | exact (Kd.C_below HR1_1.out HB.out) | (with_reducible refine Kd.CqA ?_ _) | (with_reducible refine Kd.CqN ?_ _) | (with_reducible refine Kd.CqD ?_)))
   (case side2 => exact HC1_1.out)
   rintro e w35 ⟨v744, rfl, ho0, hb⟩
   refine ⟨_, rfl, ?_⟩
   have n0_ := Aq.mk (Kd.R_elder' (by (with_reducible repeat (first | apply Kd.RqA | apply Kd.RqN | apply Kd.RqD)); exact HO741.out) (Kd.R_base ho0) hb)
   have n1_ := Aq.mk (Kd.R_lower (Kd.R_new' ho0 (Kd.R_lt (by (with_reducible repeat (first | apply Kd.RqA | apply Kd.RqN | apply Kd.RqD)); exact HO741.out))) (bQZ (by repeat (first | (with_reducible first | exact HB.out | apply bQA | apply bQN | apply bQ1 | refine bQS ?_ GE734.out | refine bQS ?_ GE735.out) | exact HB.out))))
   have n2_ := Aq.mk (kQB (g := gb734) (o := .cells #[.int .i64 a0_0, .slice A0_1 l0_1.length c0_1] 24 (0, 0)) (by (with_reducible repeat (first | refine kQN ?_ _ | refine kQD ?_ | refine kQA ?_ _)); exact BK734.out) hb)
   have n3_ := Aq.mk (kQB (g := gb735) (o := .cells #[.int .i64 a1_0, .slice A1_1 l1_1.length c1_1] 24 (0, 0)) (by (with_reducible repeat (first | refine kQN ?_ _ | refine kQD ?_ | refine kQA ?_ _)); exact BK735.out) hb)
   have n4_ := Aq.mk (bQT (by repeat (first | (with_reducible first | exact HB.out | apply bQA | apply bQN | apply bQ1 | refine bQS ?_ GE734.out | refine bQS ?_ GE735.out) | exact HB.out)) hb)
   clear HO741
   clear BK734
   clear BK735
   clear HB
   have HO741 := n0_
   have HO745 := n1_
   have BK734 := n2_
   have BK735 := n3_
   have HB := n4_
   clear n0_ n1_ n2_ n3_ n4_
   (try clear hb)
   (try clear hb2)
   (try clear hk)
   (try clear hi)
   (try clear ho0)
   obtain ⟨Ao36, co36, eo36⟩ := Kd.R_slice HO741.out
   (first | subst eo36 | (injection eo36 with f1_ f2_ f3_; have f4_ := f1_.symm; have f5_ := f3_.symm; clear f1_ f2_ f3_; subst f4_; subst f5_))
   obtain ⟨Ao37, co37, eo37⟩ := Kd.R_slice HO745.out
   (first | subst eo37 | (injection eo37 with f1_ f2_ f3_; have f4_ := f1_.symm; have f5_ := f3_.symm; clear f1_ f2_ f3_; subst f4_; subst f5_))
   refine hK.out _ _ ⟨(kQC BK734.out 0).trans rfl, (kQC BK734.out 1).trans rfl, (kQC BK735.out 0).trans rfl, (kQC BK735.out 1).trans rfl⟩ (fun hHeld => ?_)
   clear hK K
   refine norm_ (a' := ?_) ?_ ?_
   rotate_left
   ·show Act.put _ (some 26) _ = _
    simp only [Act.put, qSa, qSb, qSc, i64_w, i32_w]
    rfl
   refine one_ (i := 4) (N := some 27) #[true, true, true, true, true, false, false, false, false, false] rfl rfl (one_of HT_.out (by kernel_rfl)) (by decide) (fun K hK => ?_)
   refine goes_ Try.func40 (by kernel_rfl) rfl #[.agg #[.int .i64 t738, .slice Ao36 t739.length co36], .agg #[.int .i64 t742, .slice Ao37 t743.length co37]] (by rfl) rfl rfl (by (try simp only [List.map_toArray, List.map_cons, List.map_nil]); first | done | rfl | (simp only [List.length_drop, List.length_take]; rfl)) ?_
   with_reducible refine (spec_DistanceOf.calls k t738 _ _ t739 t742 _ _ t743 t746 t747 _ ?side1 ?side2 ?side3 ?side4 A21.out).mono ?_
   (case side1 => repeat (first | exact (Kd.R_reads' HO741.out).2.2 | (with_reducible refine Kd.CqA ?_ _) | (with_reducible refine Kd.CqN ?_ _) | (with_reducible refine Kd.CqD ?_)))
   (case side2 => exact (Kd.R_reads' HO741.out).2.1)
   (case side3 => repeat (first | exact (Kd.R_reads' HO745.out).2.2 | (with_reducible refine Kd.CqA ?_ _) | (with_reducible refine Kd.CqN ?_ _) | (with_reducible refine Kd.CqD ?_)))
   (case side4 => exact (Kd.R_reads' HO745.out).2.1)
   rintro e w38 ⟨rfl, hb⟩
   refine ⟨_, rfl, ?_⟩
   have n0_ := Aq.mk (Kd.R_below (by (with_reducible repeat (first | apply Kd.RqA | apply Kd.RqN | apply Kd.RqD)); exact HO741.out) hb)
   have n1_ := Aq.mk (Kd.R_below (by (with_reducible repeat (first | apply Kd.RqA | apply Kd.RqN | apply Kd.RqD)); exact HO745.out) hb)
   have n2_ := Aq.mk (kQB (g := gb734) (o := .cells #[.int .i64 a0_0, .slice A0_1 l0_1.length c0_1] 24 (0, 0)) (by (with_reducible repeat (first | refine kQN ?_ _ | refine kQD ?_ | refine kQA ?_ _)); exact BK734.out) hb)
   have n3_ := Aq.mk (kQB (g := gb735) (o := .cells #[.int .i64 a1_0, .slice A1_1 l1_1.length c1_1] 24 (0, 0)) (by (with_reducible repeat (first | refine kQN ?_ _ | refine kQD ?_ | refine kQA ?_ _)); exact BK735.out) hb)
   have n4_ := Aq.mk (bQT (by repeat (first | (with_reducible first | exact HB.out | apply bQA | apply bQN | apply bQ1 | refine bQS ?_ GE734.out | refine bQS ?_ GE735.out) | exact HB.out)) hb)
   clear HO741
   clear HO745
   clear BK734
   clear BK735
   clear HB
   have HO741 := n0_
   have HO745 := n1_
   have BK734 := n2_
   have BK735 := n3_
   have HB := n4_
   clear n0_ n1_ n2_ n3_ n4_
   (try clear hb)
   (try clear hb2)
   (try clear hk)
   (try clear hi)
   refine hK.out _ _ ⟨(kQC BK734.out 0).trans rfl, (kQC BK734.out 1).trans rfl, (kQC BK735.out 0).trans rfl, (kQC BK735.out 1).trans rfl⟩ (fun hHeld => ?_)
   clear hK K
   refine norm_ (a' := ?_) ?_ ?_
   rotate_left
   ·show Act.put _ (some 27) _ = _
    simp only [Act.put, qSa, qSb, qSc, i64_w, i32_w]
    rfl
   refine pure_ (i := 5) (N := some 22) (v := ?_) (a' := ?_) #[true, true, true, true, true, true, false, false, false, false] rfl rfl (any_of HT_.out (by kernel_rfl)) (fun _ _ _ h => h) (Or.inl ⟨by rfl, ?_⟩) ?_ ?_
   rotate_left
   ·intro w'
    go_simp
    with_reducible rfl
   rotate_left
   ·simp only [Act.put, qSa, qSb, qSc, i64_w, i32_w]
    rfl
   refine pure_ (i := 6) (N := some 28) (v := ?_) (a' := ?_) #[true, true, true, true, true, true, true, false, false, false] rfl rfl (any_of HT_.out (by kernel_rfl)) (fun _ _ _ h => h) (Or.inl ⟨by rfl, ?_⟩) ?_ ?_
   rotate_left
   ·intro w'
    go_simp
    with_reducible rfl
   rotate_left
   ·simp only [Act.put, qSa, qSb, qSc, i64_w, i32_w]
    rfl
   refine pure_ (i := 7) (N := some 29) (v := ?_) (a' := ?_) #[true, true, true, true, true, true, true, true, false, false] rfl rfl (any_of HT_.out (by kernel_rfl)) (fun _ _ _ h => h) (Or.inl ⟨by rfl, ?_⟩) ?_ ?_
   rotate_left
   ·intro w'
    go_simp
    with_reducible rfl
   rotate_left
   ·simp only [Act.put, qSa, qSb, qSc, i64_w, i32_w]
    rfl
   refine pure_ (i := 8) (N := some 6) (v := ?_) (a' := ?_) #[true, true, true, true, true, true, true, true, true, false] rfl rfl (any_of HT_.out (by kernel_rfl)) (fun _ _ _ h => h) (Or.inl ⟨by rfl, ?_⟩) ?_ ?_
   rotate_left
   ·intro w'
    go_simp
    with_reducible rfl
   rotate_left
   ·simp only [Act.put, qSa, qSb, qSc, i64_w, i32_w]
    rfl
   refine pure_ (i := 9) (N := some 7) (v := ?_) (a' := ?_) #[true, true, true, true, true, true, true, true, true, true] rfl rfl (any_of HT_.out (by kernel_rfl)) (fun _ _ _ h => h) (Or.inl ⟨by rfl, ?_⟩) ?_ ?_
   rotate_left
   ·intro w'
    go_simp
    with_reducible rfl
   rotate_left
   ·simp only [Act.put, qSa, qSb, qSc, i64_w, i32_w]
    rfl
   refine done_ (done_of HT_.out (by kernel_rfl)) ?_
   have hcz39_0 : w38.cell? ⟨gb734, 0, none⟩ = some (.int .i64 a0_0) := (kQC BK734.out 0).trans rfl
   have hcz39_1 : w38.cell? ⟨gb734, 1, none⟩ = some (.slice A0_1 l0_1.length c0_1) := (kQC BK734.out 1).trans rfl
   have hfz39_0 := kQF BK734.out 0
   have hfz39_1 := kQF BK734.out 1
   go_upto_region 12 with (first | ((with_reducible refine gQc (f := 17) rfl ?_); refine goesL_ (some 31) rfl rfl Try.func17 (by kernel_rfl) rfl #[.agg #[.int .i64 a0_0, .slice A0_1 l0_1.length c0_1]] rfl (by (try simp only [List.map_toArray, List.map_cons, List.map_nil]); first | done | rfl | (simp only [List.length_drop, List.length_take]; rfl)) ?_; (with_reducible refine (laws_toMatrix.calls k a0_0 _ _ l0_1 t748 t749 _ ?side1 ?side2 A22.out).mono ?_); (case side1 => repeat (first | exact (Kd.C_below HR0_1.out HB.out) | (with_reducible refine Kd.CqA ?_ _) | (with_reducible refine Kd.CqN ?_ _) | (with_reducible refine Kd.CqD ?_))); (case side2 => exact HC0_1.out); rintro e w40 ⟨v750, rfl, ho0, hb⟩; refine ⟨_, rfl, ?_⟩; have n0_ := Aq.mk (Kd.R_elder' (by (with_reducible repeat (first | apply Kd.RqA | apply Kd.RqN | apply Kd.RqD)); exact HO741.out) (Kd.R_base ho0) hb); have n1_ := Aq.mk (Kd.R_elder' (by (with_reducible repeat (first | apply Kd.RqA | apply Kd.RqN | apply Kd.RqD)); exact HO745.out) (Kd.R_base ho0) hb); have n2_ := Aq.mk (Kd.R_lower (Kd.R_new' (Kd.R_new' ho0 (Kd.R_lt (by (with_reducible repeat (first | apply Kd.RqA | apply Kd.RqN | apply Kd.RqD)); exact HO741.out))) (Kd.R_lt (by (with_reducible repeat (first | apply Kd.RqA | apply Kd.RqN | apply Kd.RqD)); exact HO745.out))) (bQZ (by repeat (first | (with_reducible first | exact HB.out | apply bQA | apply bQN | apply bQ1 | refine bQS ?_ GE734.out | refine bQS ?_ GE735.out) | exact HB.out)))); have n3_ := Aq.mk (kQB (g := gb734) (o := .cells #[.int .i64 a0_0, .slice A0_1 l0_1.length c0_1] 24 (0, 0)) (by (with_reducible repeat (first | refine kQN ?_ _ | refine kQD ?_ | refine kQA ?_ _)); exact BK734.out) hb); have n4_ := Aq.mk (kQB (g := gb735) (o := .cells #[.int .i64 a1_0, .slice A1_1 l1_1.length c1_1] 24 (0, 0)) (by (with_reducible repeat (first | refine kQN ?_ _ | refine kQD ?_ | refine kQA ?_ _)); exact BK735.out) hb); have n5_ := Aq.mk (bQT (by repeat (first | (with_reducible first | exact HB.out | apply bQA | apply bQN | apply bQ1 | refine bQS ?_ GE734.out | refine bQS ?_ GE735.out) | exact HB.out)) hb); clear HO741; clear HO745; clear BK734; clear BK735; clear HB; have HO741 := n0_; have HO745 := n1_; have HO751 := n2_; have BK734 := n3_; have BK735 := n4_; have HB := n5_; clear n0_ n1_ n2_ n3_ n4_ n5_; (try clear hb); (try clear hb2); (try clear hk); (try clear hi); (try clear ho0)) | ((with_reducible refine gQd (N := 8) rfl ?_); refine xQe ?hg (N := 8) ?hd (cs := #[.int .i64 0, .slice none 0 0]) (t := 26) ?hr ?_; (case hd => rfl); (case hg => rfl); (case hr => first | (go_simp; done) | (go_simp; rfl)); intro gb752 hg w41 hbox hb; have n0_ := Aq.mk (Kd.R_below (by (with_reducible repeat (first | apply Kd.RqA | apply Kd.RqN | apply Kd.RqD)); exact HO741.out) hb); have n1_ := Aq.mk (Kd.R_below (by (with_reducible repeat (first | apply Kd.RqA | apply Kd.RqN | apply Kd.RqD)); exact HO745.out) hb); have n2_ := Aq.mk (Kd.R_below (by (with_reducible repeat (first | apply Kd.RqA | apply Kd.RqN | apply Kd.RqD)); exact HO751.out) hb); have n3_ := Aq.mk (kQB (g := gb734) (o := .cells #[.int .i64 a0_0, .slice A0_1 l0_1.length c0_1] 24 (0, 0)) (by (with_reducible repeat (first | refine kQN ?_ _ | refine kQD ?_ | refine kQA ?_ _)); exact BK734.out) hb); have n4_ := Aq.mk (kQB (g := gb735) (o := .cells #[.int .i64 a1_0, .slice A1_1 l1_1.length c1_1] 24 (0, 0)) (by (with_reducible repeat (first | refine kQN ?_ _ | refine kQD ?_ | refine kQA ?_ _)); exact BK735.out) hb); have n5_ := Aq.mk (bQT (by repeat (first | (with_reducible first | exact HB.out | apply bQA | apply bQN | apply bQ1 | refine bQS ?_ GE734.out | refine bQS ?_ GE735.out) | exact HB.out)) hb); have n6_ := Aq.mk (hbox); have n7_ := Aq.mk ((by rw [hg]; exact (bQZ (by repeat (first | (with_reducible first | exact HB.out | apply bQA | apply bQN | apply bQ1 | refine bQS ?_ GE734.out | refine bQS ?_ GE735.out) | exact HB.out))) : w.heap.size ≤ gb752)); have n8_ := Aq.mk ((by rw [hg]; exact (bQZ (by repeat (first | (with_reducible first | exact HB.out | apply bQA | apply bQN | apply bQ1 | refine bQS ?_ GE734.out | refine bQS ?_ GE735.out) | exact HB.out))) : w.heap.size ≤ gb752)); have n9_ := Aq.mk ((by rw [hg]; exact Nat.ne_of_lt (blk_lt (g := gb734) (o := .cells #[.int .i64 a0_0, .slice A0_1 l0_1.length c0_1] 24 (0, 0)) (by (with_reducible repeat (first | refine kQN ?_ _ | refine kQD ?_ | refine kQA ?_ _)); exact BK734.out)) : gb734 ≠ gb752)); have n10_ := Aq.mk ((by rw [hg]; exact Nat.ne_of_gt (blk_lt (g := gb734) (o := .cells #[.int .i64 a0_0, .slice A0_1 l0_1.length c0_1] 24 (0, 0)) (by (with_reducible repeat (first | refine kQN ?_ _ | refine kQD ?_ | refine kQA ?_ _)); exact BK734.out)) : gb752 ≠ gb734)); have n11_ := Aq.mk ((by rw [hg]; exact Nat.ne_of_lt (blk_lt (g := gb735) (o := .cells #[.int .i64 a1_0, .slice A1_1 l1_1.length c1_1] 24 (0, 0)) (by (with_reducible repeat (first | refine kQN ?_ _ | refine kQD ?_ | refine kQA ?_ _)); exact BK735.out)) : gb735 ≠ gb752)); have n12_ := Aq.mk ((by rw [hg]; exact Nat.ne_of_gt (blk_lt (g := gb735) (o := .cells #[.int .i64 a1_0, .slice A1_1 l1_1.length c1_1] 24 (0, 0)) (by (with_reducible repeat (first | refine kQN ?_ _ | refine kQD ?_ | refine kQA ?_ _)); exact BK735.out)) : gb752 ≠ gb735)); clear HO741; clear HO745; clear HO751; clear BK734; clear BK735; clear HB; have HO741 := n0_; have HO745 := n1_; have HO751 := n2_; have BK734 := n3_; have BK735 := n4_; have HB := n5_; have BK752 := n6_; have GW752 := n7_; have GE752 := n8_; have NB734_752 := n9_; have NB752_734 := n10_; have NB735_752 := n11_; have NB752_735 := n12_; clear n0_ n1_ n2_ n3_ n4_ n5_ n6_ n7_ n8_ n9_ n10_ n11_ n12_; clear hb hbox hg; have hnb42 := NB752_734.out; have hnc42 := NB734_752.out; have hnb43 := NB752_735.out; have hnc43 := NB735_752.out; have hcz44_0 : w41.cell? ⟨gb752, 0, none⟩ = some (.int .i64 0) := (kQC BK752.out 0).trans rfl; have hcz44_1 : w41.cell? ⟨gb752, 1, none⟩ = some (.slice none 0 0) := (kQC BK752.out 1).trans rfl; have hfz44_0 := kQF BK752.out 0; have hfz44_1 := kQF BK752.out 1; obtain ⟨Ao45, co45, eo45⟩ := Kd.R_slice HO751.out; subst eo45; have hcz46_0 : w41.cell? ⟨gb735, 0, none⟩ = some (.int .i64 a1_0) := (kQC BK735.out 0).trans rfl; have hcz46_1 : w41.cell? ⟨gb735, 1, none⟩ = some (.slice A1_1 l1_1.length c1_1) := (kQC BK735.out 1).trans rfl; have hfz46_0 := kQF BK735.out 0; have hfz46_1 := kQF BK735.out 1) | ((with_reducible refine gQc (f := 17) rfl ?_); refine goesL_ (some 33) rfl rfl Try.func17 (by kernel_rfl) rfl #[.agg #[.int .i64 a1_0, .slice A1_1 l1_1.length c1_1]] rfl (by (try simp only [List.map_toArray, List.map_cons, List.map_nil]); first | done | rfl | (simp only [List.length_drop, List.length_take]; rfl)) ?_; (with_reducible refine (laws_toMatrix.calls k a1_0 _ _ l1_1 t753 t754 _ ?side1 ?side2 A23.out).mono ?_); (case side1 => exact Kd.C_below HR1_1.out (by repeat (first | (with_reducible first | exact HB.out | apply bQA | apply bQN | apply bQ1 | refine bQS ?_ GE734.out | refine bQS ?_ GE735.out | refine bQS ?_ GE752.out) | exact HB.out))); (case side2 => exact HC1_1.out); rintro e w47 ⟨v755, rfl, ho0, hb⟩; refine ⟨_, rfl, ?_⟩; have n0_ := Aq.mk (Kd.R_elder' (by (with_reducible repeat (first | apply Kd.RqA | apply Kd.RqN | apply Kd.RqD)); exact (Kd.R_mono (Kd.R_far (p := ⟨gb752, 1, none⟩) (Kd.R_far (p := ⟨gb752, 0, none⟩) (Kd.R_types HO741.out BK752.out (by decide)) (fun _ hk => hk.2) (.int .i64 t748)) (fun _ hk => hk.2) (.slice Ao45 t749.length co45)) (fun _ h_ => h_.1))) (Kd.R_base ho0) hb); have n1_ := Aq.mk (Kd.R_elder' (by (with_reducible repeat (first | apply Kd.RqA | apply Kd.RqN | apply Kd.RqD)); exact (Kd.R_mono (Kd.R_far (p := ⟨gb752, 1, none⟩) (Kd.R_far (p := ⟨gb752, 0, none⟩) (Kd.R_types HO745.out BK752.out (by decide)) (fun _ hk => hk.2) (.int .i64 t748)) (fun _ hk => hk.2) (.slice Ao45 t749.length co45)) (fun _ h_ => h_.1))) (Kd.R_base ho0) hb); have n2_ := Aq.mk (Kd.R_elder' (by (with_reducible repeat (first | apply Kd.RqA | apply Kd.RqN | apply Kd.RqD)); exact (Kd.R_mono (Kd.R_far (p := ⟨gb752, 1, none⟩) (Kd.R_far (p := ⟨gb752, 0, none⟩) (Kd.R_types HO751.out BK752.out (by decide)) (fun _ hk => hk.2) (.int .i64 t748)) (fun _ hk => hk.2) (.slice Ao45 t749.length co45)) (fun _ h_ => h_.1))) (Kd.R_base ho0) hb); have n3_ := Aq.mk (Kd.R_lower (Kd.R_new' (Kd.R_new' (Kd.R_new' ho0 (Kd.R_lt (by (with_reducible repeat (first | apply Kd.RqA | apply Kd.RqN | apply Kd.RqD)); exact (Kd.R_mono (Kd.R_far (p := ⟨gb752, 1, none⟩) (Kd.R_far (p := ⟨gb752, 0, none⟩) (Kd.R_types HO741.out BK752.out (by decide)) (fun _ hk => hk.2) (.int .i64 t748)) (fun _ hk => hk.2) (.slice Ao45 t749.length co45)) (fun _ h_ => h_.1))))) (Kd.R_lt (by (with_reducible repeat (first | apply Kd.RqA | apply Kd.RqN | apply Kd.RqD)); exact (Kd.R_mono (Kd.R_far (p := ⟨gb752, 1, none⟩) (Kd.R_far (p := ⟨gb752, 0, none⟩) (Kd.R_types HO745.out BK752.out (by decide)) (fun _ hk => hk.2) (.int .i64 t748)) (fun _ hk => hk.2) (.slice Ao45 t749.length co45)) (fun _ h_ => h_.1))))) (Kd.R_lt (by (with_reducible repeat (first | apply Kd.RqA | apply Kd.RqN | apply Kd.RqD)); exact (Kd.R_mono (Kd.R_far (p := ⟨gb752, 1, none⟩) (Kd.R_far (p := ⟨gb752, 0, none⟩) (Kd.R_types HO751.out BK752.out (by decide)) (fun _ hk => hk.2) (.int .i64 t748)) (fun _ hk => hk.2) (.slice Ao45 t749.length co45)) (fun _ h_ => h_.1))))) (bQZ (by repeat (first | (with_reducible first | exact HB.out | apply bQA | apply bQN | apply bQ1 | refine bQS ?_ GE734.out | refine bQS ?_ GE735.out | refine bQS ?_ GE752.out) | exact HB.out)))); have n4_ := Aq.mk (kQB (g := gb734) (o := .cells #[.int .i64 a0_0, .slice A0_1 l0_1.length c0_1] 24 (0, 0)) (by (with_reducible repeat (first | refine kQN ?_ _ | refine kQD ?_ | refine kQA ?_ _)); refine kQR ?_ NB734_752.out _; (with_reducible repeat (first | refine kQN ?_ _ | refine kQD ?_ | refine kQA ?_ _)); refine kQR ?_ NB734_752.out _; (with_reducible repeat (first | refine kQN ?_ _ | refine kQD ?_ | refine kQA ?_ _)); exact BK734.out) hb); have n5_ := Aq.mk (kQB (g := gb735) (o := .cells #[.int .i64 a1_0, .slice A1_1 l1_1.length c1_1] 24 (0, 0)) (by (with_reducible repeat (first | refine kQN ?_ _ | refine kQD ?_ | refine kQA ?_ _)); refine kQR ?_ NB735_752.out _; (with_reducible repeat (first | refine kQN ?_ _ | refine kQD ?_ | refine kQA ?_ _)); refine kQR ?_ NB735_752.out _; (with_reducible repeat (first | refine kQN ?_ _ | refine kQD ?_ | refine kQA ?_ _)); exact BK735.out) hb); have n6_ := Aq.mk (kQB (g := gb752) (o := .cells #[.int .i64 t748, .slice Ao45 t749.length co45] 26 (0, 0)) (by (with_reducible repeat (first | refine kQN ?_ _ | refine kQD ?_ | refine kQA ?_ _)); refine kQP (cs := #[.int .i64 t748, .slice none 0 0]) ?_ 1 _ rfl; (with_reducible repeat (first | refine kQN ?_ _ | refine kQD ?_ | refine kQA ?_ _)); refine kQP (cs := #[.int .i64 0, .slice none 0 0]) ?_ 0 _ rfl; (with_reducible repeat (first | refine kQN ?_ _ | refine kQD ?_ | refine kQA ?_ _)); exact BK752.out) hb); have n7_ := Aq.mk (bQT (by repeat (first | (with_reducible first | exact HB.out | apply bQA | apply bQN | apply bQ1 | refine bQS ?_ GE734.out | refine bQS ?_ GE735.out | refine bQS ?_ GE752.out) | exact HB.out)) hb); clear HO741; clear HO745; clear HO751; clear BK734; clear BK735; clear BK752; clear HB; have HO741 := n0_; have HO745 := n1_; have HO751 := n2_; have HO756 := n3_; have BK734 := n4_; have BK735 := n5_; have BK752 := n6_; have HB := n7_; clear n0_ n1_ n2_ n3_ n4_ n5_ n6_ n7_; (try clear hb); (try clear hb2); (try clear hk); (try clear hi); (try clear ho0)) | ((with_reducible refine gQd (N := 9) rfl ?_); refine xQe ?hg (N := 9) ?hd (cs := #[.int .i64 0, .slice none 0 0]) (t := 26) ?hr ?_; (case hd => rfl); (case hg => rfl); (case hr => first | (go_simp; done) | (go_simp; rfl)); intro gb757 hg w48 hbox hb; have n0_ := Aq.mk (Kd.R_below (by (with_reducible repeat (first | apply Kd.RqA | apply Kd.RqN | apply Kd.RqD)); exact HO741.out) hb); have n1_ := Aq.mk (Kd.R_below (by (with_reducible repeat (first | apply Kd.RqA | apply Kd.RqN | apply Kd.RqD)); exact HO745.out) hb); have n2_ := Aq.mk (Kd.R_below (by (with_reducible repeat (first | apply Kd.RqA | apply Kd.RqN | apply Kd.RqD)); exact HO751.out) hb); have n3_ := Aq.mk (Kd.R_below (by (with_reducible repeat (first | apply Kd.RqA | apply Kd.RqN | apply Kd.RqD)); exact HO756.out) hb); have n4_ := Aq.mk (kQB (g := gb734) (o := .cells #[.int .i64 a0_0, .slice A0_1 l0_1.length c0_1] 24 (0, 0)) (by (with_reducible repeat (first | refine kQN ?_ _ | refine kQD ?_ | refine kQA ?_ _)); exact BK734.out) hb); have n5_ := Aq.mk (kQB (g := gb735) (o := .cells #[.int .i64 a1_0, .slice A1_1 l1_1.length c1_1] 24 (0, 0)) (by (with_reducible repeat (first | refine kQN ?_ _ | refine kQD ?_ | refine kQA ?_ _)); exact BK735.out) hb); have n6_ := Aq.mk (kQB (g := gb752) (o := .cells #[.int .i64 t748, .slice Ao45 t749.length co45] 26 (0, 0)) (by (with_reducible repeat (first | refine kQN ?_ _ | refine kQD ?_ | refine kQA ?_ _)); exact BK752.out) hb); have n7_ := Aq.mk (bQT (by repeat (first | (with_reducible first | exact HB.out | apply bQA | apply bQN | apply bQ1 | refine bQS ?_ GE734.out | refine bQS ?_ GE735.out | refine bQS ?_ GE752.out) | exact HB.out)) hb); have n8_ := Aq.mk (hbox); have n9_ := Aq.mk ((by rw [hg]; exact (bQZ (by repeat (first | (with_reducible first | exact HB.out | apply bQA | apply bQN | apply bQ1 | refine bQS ?_ GE734.out | refine bQS ?_ GE735.out | refine bQS ?_ GE752.out) | exact HB.out))) : w.heap.size ≤ gb757)); have n10_ := Aq.mk ((by rw [hg]; exact (bQZ (by repeat (first | (with_reducible first | exact HB.out | apply bQA | apply bQN | apply bQ1 | refine bQS ?_ GE734.out | refine bQS ?_ GE735.out | refine bQS ?_ GE752.out) | exact HB.out))) : w.heap.size ≤ gb757)); have n11_ := Aq.mk ((by rw [hg]; exact Nat.ne_of_lt (blk_lt (g := gb734) (o := .cells #[.int .i64 a0_0, .slice A0_1 l0_1.length c0_1] 24 (0, 0)) (by (with_reducible repeat (first | refine kQN ?_ _ | refine kQD ?_ | refine kQA ?_ _)); exact BK734.out)) : gb734 ≠ gb757)); have n12_ := Aq.mk ((by rw [hg]; exact Nat.ne_of_gt (blk_lt (g := gb734) (o := .cells #[.int .i64 a0_0, .slice A0_1 l0_1.length c0_1] 24 (0, 0)) (by (with_reducible repeat (first | refine kQN ?_ _ | refine kQD ?_ | refine kQA ?_ _)); exact BK734.out)) : gb757 ≠ gb734)); have n13_ := Aq.mk ((by rw [hg]; exact Nat.ne_of_lt (blk_lt (g := gb735) (o := .cells #[.int .i64 a1_0, .slice A1_1 l1_1.length c1_1] 24 (0, 0)) (by (with_reducible repeat (first | refine kQN ?_ _ | refine kQD ?_ | refine kQA ?_ _)); exact BK735.out)) : gb735 ≠ gb757)); have n14_ := Aq.mk ((by rw [hg]; exact Nat.ne_of_gt (blk_lt (g := gb735) (o := .cells #[.int .i64 a1_0, .slice A1_1 l1_1.length c1_1] 24 (0, 0)) (by (with_reducible repeat (first | refine kQN ?_ _ | refine kQD ?_ | refine kQA ?_ _)); exact BK735.out)) : gb757 ≠ gb735)); have n15_ := Aq.mk ((by rw [hg]; exact Nat.ne_of_lt (blk_lt (g := gb752) (o := .cells #[.int .i64 t748, .slice Ao45 t749.length co45] 26 (0, 0)) (by (with_reducible repeat (first | refine kQN ?_ _ | refine kQD ?_ | refine kQA ?_ _)); exact BK752.out)) : gb752 ≠ gb757)); have n16_ := Aq.mk ((by rw [hg]; exact Nat.ne_of_gt (blk_lt (g := gb752) (o := .cells #[.int .i64 t748, .slice Ao45 t749.length co45] 26 (0, 0)) (by (with_reducible repeat (first | refine kQN ?_ _ | refine kQD ?_ | refine kQA ?_ _)); exact BK752.out)) : gb757 ≠ gb752)); clear HO741; clear HO745; clear HO751; clear HO756; clear BK734; clear BK735; clear BK752; clear HB; have HO741 := n0_; have HO745 := n1_; have HO751 := n2_; have HO756 := n3_; have BK734 := n4_; have BK735 := n5_; have BK752 := n6_; have HB := n7_; have BK757 := n8_; have GW757 := n9_; have GE757 := n10_; have NB734_757 := n11_; have NB757_734 := n12_; have NB735_757 := n13_; have NB757_735 := n14_; have NB752_757 := n15_; have NB757_752 := n16_; clear n0_ n1_ n2_ n3_ n4_ n5_ n6_ n7_ n8_ n9_ n10_ n11_ n12_ n13_ n14_ n15_ n16_; clear hb hbox hg; have hnb49 := NB757_734.out; have hnc49 := NB734_757.out; have hnb50 := NB757_735.out; have hnc50 := NB735_757.out; have hnb51 := NB757_752.out; have hnc51 := NB752_757.out; have hcz52_0 : w48.cell? ⟨gb757, 0, none⟩ = some (.int .i64 0) := (kQC BK757.out 0).trans rfl; have hcz52_1 : w48.cell? ⟨gb757, 1, none⟩ = some (.slice none 0 0) := (kQC BK757.out 1).trans rfl; have hfz52_0 := kQF BK757.out 0; have hfz52_1 := kQF BK757.out 1; obtain ⟨Ao53, co53, eo53⟩ := Kd.R_slice HO756.out; subst eo53; have hcz54_0 : w48.cell? ⟨gb752, 0, none⟩ = some (.int .i64 t748) := (kQC BK752.out 0).trans rfl; have hcz54_1 : w48.cell? ⟨gb752, 1, none⟩ = some (.slice Ao45 t749.length co45) := (kQC BK752.out 1).trans rfl; have hfz54_0 := kQF BK752.out 0; have hfz54_1 := kQF BK752.out 1) | ((with_reducible refine gQc (f := 33) rfl ?_); refine goesL_ (some 37) rfl rfl Try.func33 (by kernel_rfl) rfl #[.agg #[.int .i64 t748, .slice Ao45 t749.length co45], .agg #[.int .i64 t753, .slice Ao53 t754.length co53]] rfl (by (try simp only [List.map_toArray, List.map_cons, List.map_nil]); first | done | rfl | (simp only [List.length_drop, List.length_take]; rfl)) ?_; (with_reducible refine (impl_DistanceOf.calls k t748 _ _ t749 t753 _ _ t754 t758 t759 _ ?side1 ?side2 ?side3 ?side4 A24.out).mono ?_); (case side1 => refine (Kd.R_reads' (e := 2) (base := w.heap.size) (ok := fun k_ => (((True ∧ some k_ ≠ (.slice Ao36 t739.length co36 : Value).ownBlock) ∧ some k_ ≠ (.slice Ao37 t743.length co37 : Value).ownBlock) ∧ some k_ ≠ (.slice Ao53 t754.length co53 : Value).ownBlock)) (n := t749.length) (c := co45) ?_).2.2; exact (by (with_reducible repeat (first | apply Kd.RqA | apply Kd.RqN | apply Kd.RqD)); exact (Kd.R_mono (Kd.R_far (p := ⟨gb757, 1, none⟩) (Kd.R_far (p := ⟨gb757, 0, none⟩) (Kd.R_types HO751.out BK757.out (by decide)) (fun _ hk => hk.2) (.int .i64 t753)) (fun _ hk => hk.2) (.slice Ao53 t754.length co53)) (fun _ h_ => h_.1)))); (case side2 => exact (Kd.R_reads' HO751.out).2.1); (case side3 => refine (Kd.R_reads' (e := 2) (base := w.heap.size) (ok := fun k_ => (((True ∧ some k_ ≠ (.slice Ao36 t739.length co36 : Value).ownBlock) ∧ some k_ ≠ (.slice Ao37 t743.length co37 : Value).ownBlock) ∧ some k_ ≠ (.slice Ao45 t749.length co45 : Value).ownBlock)) (n := t754.length) (c := co53) ?_).2.2; exact (by (with_reducible repeat (first | apply Kd.RqA | apply Kd.RqN | apply Kd.RqD)); exact (Kd.R_mono (Kd.R_far (p := ⟨gb757, 1, none⟩) (Kd.R_far (p := ⟨gb757, 0, none⟩) (Kd.R_types HO756.out BK757.out (by decide)) (fun _ hk => hk.2) (.int .i64 t753)) (fun _ hk => hk.2) (.slice Ao53 t754.length co53)) (fun _ h_ => h_.1)))); (case side4 => exact (Kd.R_reads' HO756.out).2.1); rintro e w55 ⟨rfl, hb⟩; refine ⟨_, rfl, ?_⟩; have n0_ := Aq.mk (Kd.R_below (by (with_reducible repeat (first | apply Kd.RqA | apply Kd.RqN | apply Kd.RqD)); exact (Kd.R_mono (Kd.R_far (p := ⟨gb757, 1, none⟩) (Kd.R_far (p := ⟨gb757, 0, none⟩) (Kd.R_types HO741.out BK757.out (by decide)) (fun _ hk => hk.2) (.int .i64 t753)) (fun _ hk => hk.2) (.slice Ao53 t754.length co53)) (fun _ h_ => h_.1))) hb); have n1_ := Aq.mk (Kd.R_below (by (with_reducible repeat (first | apply Kd.RqA | apply Kd.RqN | apply Kd.RqD)); exact (Kd.R_mono (Kd.R_far (p := ⟨gb757, 1, none⟩) (Kd.R_far (p := ⟨gb757, 0, none⟩) (Kd.R_types HO745.out BK757.out (by decide)) (fun _ hk => hk.2) (.int .i64 t753)) (fun _ hk => hk.2) (.slice Ao53 t754.length co53)) (fun _ h_ => h_.1))) hb); have n2_ := Aq.mk (Kd.R_below (by (with_reducible repeat (first | apply Kd.RqA | apply Kd.RqN | apply Kd.RqD)); exact (Kd.R_mono (Kd.R_far (p := ⟨gb757, 1, none⟩) (Kd.R_far (p := ⟨gb757, 0, none⟩) (Kd.R_types HO751.out BK757.out (by decide)) (fun _ hk => hk.2) (.int .i64 t753)) (fun _ hk => hk.2) (.slice Ao53 t754.length co53)) (fun _ h_ => h_.1))) hb); have n3_ := Aq.mk (Kd.R_below (by (with_reducible repeat (first | apply Kd.RqA | apply Kd.RqN | apply Kd.RqD)); exact (Kd.R_mono (Kd.R_far (p := ⟨gb757, 1, none⟩) (Kd.R_far (p := ⟨gb757, 0, none⟩) (Kd.R_types HO756.out BK757.out (by decide)) (fun _ hk => hk.2) (.int .i64 t753)) (fun _ hk => hk.2) (.slice Ao53 t754.length co53)) (fun _ h_ => h_.1))) hb); have n4_ := Aq.mk (kQB (g := gb734) (o := .cells #[.int .i64 a0_0, .slice A0_1 l0_1.length c0_1] 24 (0, 0)) (by (with_reducible repeat (first | refine kQN ?_ _ | refine kQD ?_ | refine kQA ?_ _)); refine kQR ?_ NB734_757.out _; (with_reducible repeat (first | refine kQN ?_ _ | refine kQD ?_ | refine kQA ?_ _)); refine kQR ?_ NB734_757.out _; (with_reducible repeat (first | refine kQN ?_ _ | refine kQD ?_ | refine kQA ?_ _)); exact BK734.out) hb); have n5_ := Aq.mk (kQB (g := gb735) (o := .cells #[.int .i64 a1_0, .slice A1_1 l1_1.length c1_1] 24 (0, 0)) (by (with_reducible repeat (first | refine kQN ?_ _ | refine kQD ?_ | refine kQA ?_ _)); refine kQR ?_ NB735_757.out _; (with_reducible repeat (first | refine kQN ?_ _ | refine kQD ?_ | refine kQA ?_ _)); refine kQR ?_ NB735_757.out _; (with_reducible repeat (first | refine kQN ?_ _ | refine kQD ?_ | refine kQA ?_ _)); exact BK735.out) hb); have n6_ := Aq.mk (kQB (g := gb752) (o := .cells #[.int .i64 t748, .slice Ao45 t749.length co45] 26 (0, 0)) (by (with_reducible repeat (first | refine kQN ?_ _ | refine kQD ?_ | refine kQA ?_ _)); refine kQR ?_ NB752_757.out _; (with_reducible repeat (first | refine kQN ?_ _ | refine kQD ?_ | refine kQA ?_ _)); refine kQR ?_ NB752_757.out _; (with_reducible repeat (first | refine kQN ?_ _ | refine kQD ?_ | refine kQA ?_ _)); exact BK752.out) hb); have n7_ := Aq.mk (kQB (g := gb757) (o := .cells #[.int .i64 t753, .slice Ao53 t754.length co53] 26 (0, 0)) (by (with_reducible repeat (first | refine kQN ?_ _ | refine kQD ?_ | refine kQA ?_ _)); refine kQP (cs := #[.int .i64 t753, .slice none 0 0]) ?_ 1 _ rfl; (with_reducible repeat (first | refine kQN ?_ _ | refine kQD ?_ | refine kQA ?_ _)); refine kQP (cs := #[.int .i64 0, .slice none 0 0]) ?_ 0 _ rfl; (with_reducible repeat (first | refine kQN ?_ _ | refine kQD ?_ | refine kQA ?_ _)); exact BK757.out) hb); have n8_ := Aq.mk (bQT (by repeat (first | (with_reducible first | exact HB.out | apply bQA | apply bQN | apply bQ1 | refine bQS ?_ GE734.out | refine bQS ?_ GE735.out | refine bQS ?_ GE752.out | refine bQS ?_ GE757.out) | exact HB.out)) hb); clear HO741; clear HO745; clear HO751; clear HO756; clear BK734; clear BK735; clear BK752; clear BK757; clear HB; have HO741 := n0_; have HO745 := n1_; have HO751 := n2_; have HO756 := n3_; have BK734 := n4_; have BK735 := n5_; have BK752 := n6_; have BK757 := n7_; have HB := n8_; clear n0_ n1_ n2_ n3_ n4_ n5_ n6_ n7_ n8_; (try clear hb); (try clear hb2); (try clear hk); (try clear hi)))
   (try simp only [Act.put, qSa, qSb, qSc])
   go_cut [47] (fun v47 wc => ∃ (kq : Nat) (x47_24 : Bool), v47 = .bool x47_24 ∧ Aq (laws_FnExactDistanceOf.j0 kq x47_24 a0_0 l0_1 a1_0 l1_1 t748 t749 t753 t754 = some r) ∧ Aq (kq ≤ k) ∧ Aq (Kd.R (Kd.int .i64) 2 wc w.heap.size (fun k_ => some k_ ≠ ((.slice Ao53 t754.length co53) : Value).ownBlock) (.slice Ao45 t749.length co45) t749) ∧ Aq (Kd.R (Kd.int .i64) 2 wc w.heap.size (fun k_ => some k_ ≠ ((.slice Ao45 t749.length co45) : Value).ownBlock) (.slice Ao53 t754.length co53) t754) ∧ Aq (wc.heap[gb734]? = some (.cells #[.int .i64 a0_0, (.slice A0_1 l0_1.length c0_1)] 24 (0, 0))) ∧ Aq (wc.heap[gb735]? = some (.cells #[.int .i64 a1_0, (.slice A1_1 l1_1.length c1_1)] 24 (0, 0))) ∧ Aq (wc.heap[gb752]? = some (.cells #[.int .i64 t748, (.slice Ao45 t749.length co45)] 26 (0, 0))) ∧ Aq (wc.heap[gb757]? = some (.cells #[.int .i64 t753, (.slice Ao53 t754.length co53)] 26 (0, 0))) ∧ Aq (Below w.heap.size w wc))
   case first =>
    have H := HC25.out
    clear HC25
    by_cases c56 : t758 = t746
    ·rw [if_pos c56] at H
     have c56b0 : (t758 == t746) = true := beq_iff_eq.mpr c56
     have c56b1 : (t758 != t746) = false := bne_eq_false_iff_eq.mpr c56
     clear c56
     (first | rw [c56b0] | (simp only [i64_w, i32_w]; rw [c56b0]) | skip)
     have H' := Aq.mk H
     clear H
     go_wp2
     go_meet
     case rel => exact ⟨_, ((t759 != t747)), (by first | rfl | (simp; done) | (simp [*]; done)), H', ⟨by first | omega | exact Nat.le_refl _⟩, ⟨by (with_reducible repeat (first | apply Kd.RqA | apply Kd.RqN | apply Kd.RqD)); exact Kd.R_mono HO751.out (fun _ hk => hk.2)⟩, ⟨by (with_reducible repeat (first | apply Kd.RqA | apply Kd.RqN | apply Kd.RqD)); exact Kd.R_mono HO756.out (fun _ hk => hk.2)⟩, ⟨by (with_reducible repeat (first | refine kQN ?_ _ | refine kQD ?_ | refine kQA ?_ _)); exact BK734.out⟩, ⟨by (with_reducible repeat (first | refine kQN ?_ _ | refine kQD ?_ | refine kQA ?_ _)); exact BK735.out⟩, ⟨by (with_reducible repeat (first | refine kQN ?_ _ | refine kQD ?_ | refine kQA ?_ _)); exact BK752.out⟩, ⟨by (with_reducible repeat (first | refine kQN ?_ _ | refine kQD ?_ | refine kQA ?_ _)); exact BK757.out⟩, ⟨by repeat (first | (with_reducible first | exact HB.out | apply bQA | apply bQN | apply bQ1 | refine bQS ?_ GE734.out | refine bQS ?_ GE735.out | refine bQS ?_ GE752.out | refine bQS ?_ GE757.out) | exact HB.out)⟩⟩
    ·rw [if_neg c56] at H
     have c56b0 : (t758 == t746) = false := beq_eq_false_iff_ne.mpr c56
     have c56b1 : (t758 != t746) = true := bne_iff_ne.mpr c56
     (first | rw [c56b0] | (simp only [i64_w, i32_w]; rw [c56b0]) | skip)
     have H' := Aq.mk H
     clear H
     go_wp2
     go_meet
     case rel => exact ⟨_, (true), (by first | rfl | (simp; done) | (simp [*]; done)), H', ⟨by first | omega | exact Nat.le_refl _⟩, ⟨by (with_reducible repeat (first | apply Kd.RqA | apply Kd.RqN | apply Kd.RqD)); exact Kd.R_mono HO751.out (fun _ hk => hk.2)⟩, ⟨by (with_reducible repeat (first | apply Kd.RqA | apply Kd.RqN | apply Kd.RqD)); exact Kd.R_mono HO756.out (fun _ hk => hk.2)⟩, ⟨by (with_reducible repeat (first | refine kQN ?_ _ | refine kQD ?_ | refine kQA ?_ _)); exact BK734.out⟩, ⟨by (with_reducible repeat (first | refine kQN ?_ _ | refine kQD ?_ | refine kQA ?_ _)); exact BK735.out⟩, ⟨by (with_reducible repeat (first | refine kQN ?_ _ | refine kQD ?_ | refine kQA ?_ _)); exact BK752.out⟩, ⟨by (with_reducible repeat (first | refine kQN ?_ _ | refine kQD ?_ | refine kQA ?_ _)); exact BK757.out⟩, ⟨by repeat (first | (with_reducible first | exact HB.out | apply bQA | apply bQN | apply bQ1 | refine bQS ?_ GE734.out | refine bQS ?_ GE735.out | refine bQS ?_ GE752.out | refine bQS ?_ GE757.out) | exact HB.out)⟩⟩
   case rest =>
    clear HC25
    try clear c1
    try clear c2
    try clear p2
    try clear c3
    try clear c4
    try clear c4b0
    try clear c5
    try clear c7
    try clear c8
    try clear c11
    try clear c11b0
    try clear c14
    try clear c15
    try clear c17
    try clear c28
    try clear c33
    try clear c40
    try clear c42
    try clear c43
    try clear c49
    try clear c50
    try clear c51
    try clear c56
    try clear c56b0
    try clear c56b1
    try clear hcz15_0
    try clear hcz15_1
    try clear hcz17_0
    try clear hcz17_1
    try clear hcz29_0
    try clear hcz29_1
    try clear hcz31_0
    try clear hcz31_1
    try clear hcz39_0
    try clear hcz39_1
    try clear hcz44_0
    try clear hcz44_1
    try clear hcz46_0
    try clear hcz46_1
    try clear hcz52_0
    try clear hcz52_1
    try clear hcz54_0
    try clear hcz54_1
    try clear hcz8_0
    try clear hcz8_1
    try clear hfz15_0
    try clear hfz15_1
    try clear hfz17_0
    try clear hfz17_1
    try clear hfz29_0
    try clear hfz29_1
    try clear hfz31_0
    try clear hfz31_1
    try clear hfz39_0
    try clear hfz39_1
    try clear hfz44_0
    try clear hfz44_1
    try clear hfz46_0
    try clear hfz46_1
    try clear hfz52_0
    try clear hfz52_1
    try clear hfz54_0
    try clear hfz54_1
    try clear hfz8_0
    try clear hfz8_1
    obtain ⟨kq, x47_24, rfl, HA, HJ24, HO_753001, HO_758001, BK734, BK735, BK752, BK757, HB⟩ := hcut
    cases kq with
    | zero => exact absurd HA.out (by simp [laws_FnExactDistanceOf.j0])
    | succ kj24 =>
     have H := HA.out
     clear HA
     simp only [laws_FnExactDistanceOf.j0] at H
     by_cases c57 : x47_24 = true
     ·subst c57
      have H1 : (some false) = some r := by rw [if_pos rfl] at H; exact H
      clear H
      have H := H1
      clear H1
      obtain rfl := Option.some.inj H
      go_wp2
      go_ret
      exact ⟨by first | rfl | (simp [errW_none, errW_some] <;> rfl) | (simp [*, errW_none, errW_some] <;> rfl), by repeat (first | (with_reducible first | exact HB.out | apply bQA | apply bQN | apply bQ1 | refine bQS ?_ GE734.out | refine bQS ?_ GE735.out | refine bQS ?_ GE752.out | refine bQS ?_ GE757.out) | exact HB.out)⟩
     ·replace c57 := Bool.eq_false_iff.mpr c57
      subst c57
      have H1 : ((laws_toMatrix.f kj24 a0_0 l0_1).bind fun bt760 => ((laws_eqMatrix.f kj24 t748 t749 bt760.1 bt760.2).bind fun t764 => (if t764 = true then ((laws_toMatrix.f kj24 a1_0 l1_1).bind fun bt765 => ((laws_eqMatrix.f kj24 t753 t754 bt765.1 bt765.2).bind fun t769 => (if t769 = true then (some true) else (some false)))) else (some false)))) = some r := by rw [if_neg (show ¬ (false = true) by decide)] at H; exact H
      clear H
      have H := H1
      clear H1
      replace H := Option.bind_eq_some_iff.mp H
      obtain ⟨⟨t760, t761⟩, A580, H⟩ := H
      replace H : ((laws_eqMatrix.f kj24 t748 t749 t760 t761).bind fun t764 => (if t764 = true then ((laws_toMatrix.f kj24 a1_0 l1_1).bind fun bt765 => ((laws_eqMatrix.f kj24 t753 t754 bt765.1 bt765.2).bind fun t769 => (if t769 = true then (some true) else (some false)))) else (some false))) = some r := H
      have A58 := Aq.mk A580
      clear A580
      replace H := Option.bind_eq_some_iff.mp H
      obtain ⟨t764, A590, H⟩ := H
      replace H : (if t764 = true then ((laws_toMatrix.f kj24 a1_0 l1_1).bind fun bt765 => ((laws_eqMatrix.f kj24 t753 t754 bt765.1 bt765.2).bind fun t769 => (if t769 = true then (some true) else (some false)))) else (some false)) = some r := H
      have A59 := Aq.mk A590
      clear A590
      by_cases c60 : t764 = true
      ·subst c60
       have H1 : ((laws_toMatrix.f kj24 a1_0 l1_1).bind fun bt765 => ((laws_eqMatrix.f kj24 t753 t754 bt765.1 bt765.2).bind fun t769 => (if t769 = true then (some true) else (some false)))) = some r := by rw [if_pos rfl] at H; exact H
       clear H
       have H := H1
       clear H1
       replace H := Option.bind_eq_some_iff.mp H
       obtain ⟨⟨t765, t766⟩, A610, H⟩ := H
       replace H : ((laws_eqMatrix.f kj24 t753 t754 t765 t766).bind fun t769 => (if t769 = true then (some true) else (some false))) = some r := H
       have A61 := Aq.mk A610
       clear A610
       replace H := Option.bind_eq_some_iff.mp H
       obtain ⟨t769, A620, H⟩ := H
       replace H : (if t769 = true then (some true) else (some false)) = some r := H
       have A62 := Aq.mk A620
       clear A620
       by_cases c63 : t769 = true
       ·subst c63
        have H1 : (some true) = some r := by rw [if_pos rfl] at H; exact H
        clear H
        have H := H1
        clear H1
        obtain rfl := Option.some.inj H
        try go_wp2
        have n0_ := Aq.mk (Kd.RqD HO_753001.out)
        have n1_ := Aq.mk (Kd.RqD HO_758001.out)
        have n2_ := Aq.mk (kQD BK734.out)
        have n3_ := Aq.mk (kQD BK735.out)
        have n4_ := Aq.mk (kQD BK752.out)
        have n5_ := Aq.mk (kQD BK757.out)
        have n6_ := Aq.mk (bQ1 HB.out)
        clear HO_753001
        clear HO_758001
        clear BK734
        clear BK735
        clear BK752
        clear BK757
        clear HB
        have HO_753001 := n0_
        have HO_758001 := n1_
        have BK734 := n2_
        have BK735 := n3_
        have BK752 := n4_
        have BK757 := n5_
        have HB := n6_
        clear n0_ n1_ n2_ n3_ n4_ n5_ n6_
        refine start_ (n := 5) (S := fun w' => w'.cell? ⟨gb752, 0, none⟩ = some (.int .i64 t748) ∧ w'.cell? ⟨gb752, 1, none⟩ = some (.slice Ao45 t749.length co45) ∧ w'.cell? ⟨gb734, 0, none⟩ = some (.int .i64 a0_0) ∧ w'.cell? ⟨gb734, 1, none⟩ = some (.slice A0_1 l0_1.length c0_1)) (ds := []) #[false, false, false, false, false] (by kernel_rfl) rfl rfl ⟨(kQC BK752.out 0).trans rfl, (kQC BK752.out 1).trans rfl, (kQC BK734.out 0).trans rfl, (kQC BK734.out 1).trans rfl⟩ (fun hHeld => ?_)
        generalize wc.drew = w64 at HO_753001 HO_758001 BK734 BK735 BK752 BK757 HB hHeld ⊢
        refine take_ (i := 0) (N := some 48) (v := ?_) (a' := ?_) #[true, false, false, false, false] rfl rfl (by kernel_rfl) (fun _ _ _ h => h) (Or.inl ⟨by rfl, ?_⟩) hHeld ?_ ?_
        rotate_left
        ·rintro w' ⟨s0, s1, s2, s3⟩
         go_simp
         with_reducible rfl
        rotate_left
        ·simp only [Act.put, qSa, qSb, qSc, i64_w, i32_w]
         rfl
        refine take_ (i := 1) (N := some 49) (v := ?_) (a' := ?_) #[true, true, false, false, false] rfl rfl (by kernel_rfl) (fun _ _ _ h => h) (Or.inl ⟨by rfl, ?_⟩) hHeld ?_ ?_
        rotate_left
        ·rintro w' ⟨s0, s1, s2, s3⟩
         go_simp
         with_reducible rfl
        rotate_left
        ·simp only [Act.put, qSa, qSb, qSc, i64_w, i32_w]
         rfl
        refine one_ (i := 2) (N := some 50) #[true, true, true, false, false] rfl rfl (by kernel_rfl) (by decide) (fun K hK => ?_)
        refine goes_ Try.func17 (by kernel_rfl) rfl #[.agg #[.int .i64 a0_0, .slice A0_1 l0_1.length c0_1]] (by rfl) rfl rfl (by (try simp only [List.map_toArray, List.map_cons, List.map_nil]); first | done | rfl | (simp only [List.length_drop, List.length_take]; rfl)) ?_
        with_reducible refine (laws_toMatrix.calls kj24 a0_0 _ _ l0_1 t760 t761 _ ?side1 ?side2 A58.out).mono ?_
        (case side1 => repeat (first | exact (Kd.C_below HR0_1.out HB.out) | (with_reducible refine Kd.CqA ?_ _) | (with_reducible refine Kd.CqN ?_ _) | (with_reducible refine Kd.CqD ?_)))
        (case side2 => exact HC0_1.out)
        rintro e w65 ⟨v762, rfl, ho0, hb⟩
        refine ⟨_, rfl, ?_⟩
        have n0_ := Aq.mk (Kd.R_elder' (by (with_reducible repeat (first | apply Kd.RqA | apply Kd.RqN | apply Kd.RqD)); exact HO_753001.out) (Kd.R_base ho0) hb)
        have n1_ := Aq.mk (Kd.R_elder' (by (with_reducible repeat (first | apply Kd.RqA | apply Kd.RqN | apply Kd.RqD)); exact HO_758001.out) (Kd.R_base ho0) hb)
        have n2_ := Aq.mk (Kd.R_lower (Kd.R_new' (Kd.R_new' ho0 (Kd.R_lt (by (with_reducible repeat (first | apply Kd.RqA | apply Kd.RqN | apply Kd.RqD)); exact HO_753001.out))) (Kd.R_lt (by (with_reducible repeat (first | apply Kd.RqA | apply Kd.RqN | apply Kd.RqD)); exact HO_758001.out))) (bQZ (by repeat (first | (with_reducible first | exact HB.out | apply bQA | apply bQN | apply bQ1 | refine bQS ?_ GE734.out | refine bQS ?_ GE735.out | refine bQS ?_ GE752.out | refine bQS ?_ GE757.out) | exact HB.out))))
        have n3_ := Aq.mk (kQB (g := gb734) (o := .cells #[.int .i64 a0_0, .slice A0_1 l0_1.length c0_1] 24 (0, 0)) (by (with_reducible repeat (first | refine kQN ?_ _ | refine kQD ?_ | refine kQA ?_ _)); exact BK734.out) hb)
        have n4_ := Aq.mk (kQB (g := gb735) (o := .cells #[.int .i64 a1_0, .slice A1_1 l1_1.length c1_1] 24 (0, 0)) (by (with_reducible repeat (first | refine kQN ?_ _ | refine kQD ?_ | refine kQA ?_ _)); exact BK735.out) hb)
        have n5_ := Aq.mk (kQB (g := gb752) (o := .cells #[.int .i64 t748, .slice Ao45 t749.length co45] 26 (0, 0)) (by (with_reducible repeat (first | refine kQN ?_ _ | refine kQD ?_ | refine kQA ?_ _)); exact BK752.out) hb)
        have n6_ := Aq.mk (kQB (g := gb757) (o := .cells #[.int .i64 t753, .slice Ao53 t754.length co53] 26 (0, 0)) (by (with_reducible repeat (first | refine kQN ?_ _ | refine kQD ?_ | refine kQA ?_ _)); exact BK757.out) hb)
        have n7_ := Aq.mk (bQT (by repeat (first | (with_reducible first | exact HB.out | apply bQA | apply bQN | apply bQ1 | refine bQS ?_ GE734.out | refine bQS ?_ GE735.out | refine bQS ?_ GE752.out | refine bQS ?_ GE757.out) | exact HB.out)) hb)
        clear HO_753001
        clear HO_758001
        clear BK734
        clear BK735
        clear BK752
        clear BK757
        clear HB
        have HO_753001 := n0_
        have HO_758001 := n1_
        have HO763 := n2_
        have BK734 := n3_
        have BK735 := n4_
        have BK752 := n5_
        have BK757 := n6_
        have HB := n7_
        clear n0_ n1_ n2_ n3_ n4_ n5_ n6_ n7_
        (try clear hb)
        (try clear hb2)
        (try clear hk)
        (try clear hi)
        (try clear ho0)
        obtain ⟨Ao66, co66, eo66⟩ := Kd.R_slice HO763.out
        (first | subst eo66 | (injection eo66 with f1_ f2_ f3_; have f4_ := f1_.symm; have f5_ := f3_.symm; clear f1_ f2_ f3_; subst f4_; subst f5_))
        refine hK.out _ _ ⟨(kQC BK752.out 0).trans rfl, (kQC BK752.out 1).trans rfl, (kQC BK734.out 0).trans rfl, (kQC BK734.out 1).trans rfl⟩ (fun hHeld => ?_)
        clear hK K
        refine norm_ (a' := ?_) ?_ ?_
        rotate_left
        ·show Act.put _ (some 50) _ = _
         simp only [Act.put, qSa, qSb, qSc, i64_w, i32_w]
         rfl
        refine one_ (i := 3) (N := some 51) #[true, true, true, true, false] rfl rfl (by kernel_rfl) (by decide) (fun K hK => ?_)
        refine goes_ Try.func19 (by kernel_rfl) rfl #[.agg #[.int .i64 t748, .slice Ao45 t749.length co45], .agg #[.int .i64 t760, .slice Ao66 t761.length co66]] (by rfl) rfl rfl (by (try simp only [List.map_toArray, List.map_cons, List.map_nil]); first | done | rfl | (simp only [List.length_drop, List.length_take]; rfl)) ?_
        with_reducible refine (laws_eqMatrix.calls kj24 t748 _ _ t749 t760 _ _ t761 true _ ?side1 ?side2 ?side3 ?side4 A59.out).mono ?_
        (case side1 => repeat (first | exact (Kd.R_reads' HO_753001.out).2.2 | (with_reducible refine Kd.CqA ?_ _) | (with_reducible refine Kd.CqN ?_ _) | (with_reducible refine Kd.CqD ?_)))
        (case side2 => exact (Kd.R_reads' HO_753001.out).2.1)
        (case side3 => repeat (first | exact (Kd.R_reads' HO763.out).2.2 | (with_reducible refine Kd.CqA ?_ _) | (with_reducible refine Kd.CqN ?_ _) | (with_reducible refine Kd.CqD ?_)))
        (case side4 => exact (Kd.R_reads' HO763.out).2.1)
        rintro e w67 ⟨rfl, hb⟩
        refine ⟨_, rfl, ?_⟩
        have n0_ := Aq.mk (Kd.R_below (by (with_reducible repeat (first | apply Kd.RqA | apply Kd.RqN | apply Kd.RqD)); exact HO_753001.out) hb)
        have n1_ := Aq.mk (Kd.R_below (by (with_reducible repeat (first | apply Kd.RqA | apply Kd.RqN | apply Kd.RqD)); exact HO_758001.out) hb)
        have n2_ := Aq.mk (Kd.R_below (by (with_reducible repeat (first | apply Kd.RqA | apply Kd.RqN | apply Kd.RqD)); exact HO763.out) hb)
        have n3_ := Aq.mk (kQB (g := gb734) (o := .cells #[.int .i64 a0_0, .slice A0_1 l0_1.length c0_1] 24 (0, 0)) (by (with_reducible repeat (first | refine kQN ?_ _ | refine kQD ?_ | refine kQA ?_ _)); exact BK734.out) hb)
        have n4_ := Aq.mk (kQB (g := gb735) (o := .cells #[.int .i64 a1_0, .slice A1_1 l1_1.length c1_1] 24 (0, 0)) (by (with_reducible repeat (first | refine kQN ?_ _ | refine kQD ?_ | refine kQA ?_ _)); exact BK735.out) hb)
        have n5_ := Aq.mk (kQB (g := gb752) (o := .cells #[.int .i64 t748, .slice Ao45 t749.length co45] 26 (0, 0)) (by (with_reducible repeat (first | refine kQN ?_ _ | refine kQD ?_ | refine kQA ?_ _)); exact BK752.out) hb)
        have n6_ := Aq.mk (kQB (g := gb757) (o := .cells #[.int .i64 t753, .slice Ao53 t754.length co53] 26 (0, 0)) (by (with_reducible repeat (first | refine kQN ?_ _ | refine kQD ?_ | refine kQA ?_ _)); exact BK757.out) hb)
        have n7_ := Aq.mk (bQT (by repeat (first | (with_reducible first | exact HB.out | apply bQA | apply bQN | apply bQ1 | refine bQS ?_ GE734.out | refine bQS ?_ GE735.out | refine bQS ?_ GE752.out | refine bQS ?_ GE757.out) | exact HB.out)) hb)
        clear HO_753001
        clear HO_758001
        clear HO763
        clear BK734
        clear BK735
        clear BK752
        clear BK757
        clear HB
        have HO_753001 := n0_
        have HO_758001 := n1_
        have HO763 := n2_
        have BK734 := n3_
        have BK735 := n4_
        have BK752 := n5_
        have BK757 := n6_
        have HB := n7_
        clear n0_ n1_ n2_ n3_ n4_ n5_ n6_ n7_
        (try clear hb)
        (try clear hb2)
        (try clear hk)
        (try clear hi)
        refine hK.out _ _ ⟨(kQC BK752.out 0).trans rfl, (kQC BK752.out 1).trans rfl, (kQC BK734.out 0).trans rfl, (kQC BK734.out 1).trans rfl⟩ (fun hHeld => ?_)
        clear hK K
        refine norm_ (a' := ?_) ?_ ?_
        rotate_left
        ·show Act.put _ (some 51) _ = _
         simp only [Act.put, qSa, qSb, qSc, i64_w, i32_w]
         rfl
        refine pure_ (i := 4) (N := some 52) (v := ?_) (a' := ?_) #[true, true, true, true, true] rfl rfl (by kernel_rfl) (fun _ _ _ h => h) (Or.inl ⟨by rfl, ?_⟩) ?_ ?_
        rotate_left
        ·intro w'
         go_simp
         with_reducible rfl
        rotate_left
        ·simp only [Act.put, qSa, qSb, qSc, i64_w, i32_w]
         rfl
        refine done_ (by kernel_rfl) ?_
        try go_wp2
        have n0_ := Aq.mk (Kd.RqD HO_753001.out)
        have n1_ := Aq.mk (Kd.RqD HO_758001.out)
        have n2_ := Aq.mk (Kd.RqD HO763.out)
        have n3_ := Aq.mk (kQD BK734.out)
        have n4_ := Aq.mk (kQD BK735.out)
        have n5_ := Aq.mk (kQD BK752.out)
        have n6_ := Aq.mk (kQD BK757.out)
        have n7_ := Aq.mk (bQ1 HB.out)
        clear HO_753001
        clear HO_758001
        clear HO763
        clear BK734
        clear BK735
        clear BK752
        clear BK757
        clear HB
        have HO_753001 := n0_
        have HO_758001 := n1_
        have HO763 := n2_
        have BK734 := n3_
        have BK735 := n4_
        have BK752 := n5_
        have BK757 := n6_
        have HB := n7_
        clear n0_ n1_ n2_ n3_ n4_ n5_ n6_ n7_
        refine start_ (n := 5) (S := fun w' => w'.cell? ⟨gb757, 0, none⟩ = some (.int .i64 t753) ∧ w'.cell? ⟨gb757, 1, none⟩ = some (.slice Ao53 t754.length co53) ∧ w'.cell? ⟨gb735, 0, none⟩ = some (.int .i64 a1_0) ∧ w'.cell? ⟨gb735, 1, none⟩ = some (.slice A1_1 l1_1.length c1_1)) (ds := []) #[false, false, false, false, false] (by kernel_rfl) rfl rfl ⟨(kQC BK757.out 0).trans rfl, (kQC BK757.out 1).trans rfl, (kQC BK735.out 0).trans rfl, (kQC BK735.out 1).trans rfl⟩ (fun hHeld => ?_)
        generalize w67.drew = w68 at HO_753001 HO_758001 HO763 BK734 BK735 BK752 BK757 HB hHeld ⊢
        refine take_ (i := 0) (N := some 53) (v := ?_) (a' := ?_) #[true, false, false, false, false] rfl rfl (by kernel_rfl) (fun _ _ _ h => h) (Or.inl ⟨by rfl, ?_⟩) hHeld ?_ ?_
        rotate_left
        ·rintro w' ⟨s0, s1, s2, s3⟩
         go_simp
         with_reducible rfl
        rotate_left
        ·simp only [Act.put, qSa, qSb, qSc, i64_w, i32_w]
         rfl
        refine take_ (i := 1) (N := some 54) (v := ?_) (a' := ?_) #[true, true, false, false, false] rfl rfl (by kernel_rfl) (fun _ _ _ h => h) (Or.inl ⟨by rfl, ?_⟩) hHeld ?_ ?_
        rotate_left
        ·rintro w' ⟨s0, s1, s2, s3⟩
         go_simp
         with_reducible rfl
        rotate_left
        ·simp only [Act.put, qSa, qSb, qSc, i64_w, i32_w]
         rfl
        refine one_ (i := 2) (N := some 55) #[true, true, true, false, false] rfl rfl (by kernel_rfl) (by decide) (fun K hK => ?_)
        refine goes_ Try.func17 (by kernel_rfl) rfl #[.agg #[.int .i64 a1_0, .slice A1_1 l1_1.length c1_1]] (by rfl) rfl rfl (by (try simp only [List.map_toArray, List.map_cons, List.map_nil]); first | done | rfl | (simp only [List.length_drop, List.length_take]; rfl)) ?_
        with_reducible refine (laws_toMatrix.calls kj24 a1_0 _ _ l1_1 t765 t766 _ ?side1 ?side2 A61.out).mono ?_
        (case side1 => repeat (first | exact (Kd.C_below HR1_1.out HB.out) | (with_reducible refine Kd.CqA ?_ _) | (with_reducible refine Kd.CqN ?_ _) | (with_reducible refine Kd.CqD ?_)))
        (case side2 => exact HC1_1.out)
        rintro e w69 ⟨v767, rfl, ho0, hb⟩
        refine ⟨_, rfl, ?_⟩
        have n0_ := Aq.mk (Kd.R_elder' (by (with_reducible repeat (first | apply Kd.RqA | apply Kd.RqN | apply Kd.RqD)); exact HO_753001.out) (Kd.R_base ho0) hb)
        have n1_ := Aq.mk (Kd.R_elder' (by (with_reducible repeat (first | apply Kd.RqA | apply Kd.RqN | apply Kd.RqD)); exact HO_758001.out) (Kd.R_base ho0) hb)
        have n2_ := Aq.mk (Kd.R_elder' (by (with_reducible repeat (first | apply Kd.RqA | apply Kd.RqN | apply Kd.RqD)); exact HO763.out) (Kd.R_base ho0) hb)
        have n3_ := Aq.mk (Kd.R_lower (Kd.R_new' (Kd.R_new' (Kd.R_new' ho0 (Kd.R_lt (by (with_reducible repeat (first | apply Kd.RqA | apply Kd.RqN | apply Kd.RqD)); exact HO_753001.out))) (Kd.R_lt (by (with_reducible repeat (first | apply Kd.RqA | apply Kd.RqN | apply Kd.RqD)); exact HO_758001.out))) (Kd.R_lt (by (with_reducible repeat (first | apply Kd.RqA | apply Kd.RqN | apply Kd.RqD)); exact HO763.out))) (bQZ (by repeat (first | (with_reducible first | exact HB.out | apply bQA | apply bQN | apply bQ1 | refine bQS ?_ GE734.out | refine bQS ?_ GE735.out | refine bQS ?_ GE752.out | refine bQS ?_ GE757.out) | exact HB.out))))
        have n4_ := Aq.mk (kQB (g := gb734) (o := .cells #[.int .i64 a0_0, .slice A0_1 l0_1.length c0_1] 24 (0, 0)) (by (with_reducible repeat (first | refine kQN ?_ _ | refine kQD ?_ | refine kQA ?_ _)); exact BK734.out) hb)
        have n5_ := Aq.mk (kQB (g := gb735) (o := .cells #[.int .i64 a1_0, .slice A1_1 l1_1.length c1_1] 24 (0, 0)) (by (with_reducible repeat (first | refine kQN ?_ _ | refine kQD ?_ | refine kQA ?_ _)); exact BK735.out) hb)
        have n6_ := Aq.mk (kQB (g := gb752) (o := .cells #[.int .i64 t748, .slice Ao45 t749.length co45] 26 (0, 0)) (by (with_reducible repeat (first | refine kQN ?_ _ | refine kQD ?_ | refine kQA ?_ _)); exact BK752.out) hb)
        have n7_ := Aq.mk (kQB (g := gb757) (o := .cells #[.int .i64 t753, .slice Ao53 t754.length co53] 26 (0, 0)) (by (with_reducible repeat (first | refine kQN ?_ _ | refine kQD ?_ | refine kQA ?_ _)); exact BK757.out) hb)
        have n8_ := Aq.mk (bQT (by repeat (first | (with_reducible first | exact HB.out | apply bQA | apply bQN | apply bQ1 | refine bQS ?_ GE734.out | refine bQS ?_ GE735.out | refine bQS ?_ GE752.out | refine bQS ?_ GE757.out) | exact HB.out)) hb)
        clear HO_753001
        clear HO_758001
        clear HO763
        clear BK734
        clear BK735
        clear BK752
        clear BK757
        clear HB
        have HO_753001 := n0_
        have HO_758001 := n1_
        have HO763 := n2_
        have HO768 := n3_
        have BK734 := n4_
        have BK735 := n5_
        have BK752 := n6_
        have BK757 := n7_
        have HB := n8_
        clear n0_ n1_ n2_ n3_ n4_ n5_ n6_ n7_ n8_
        (try clear hb)
        (try clear hb2)
        (try clear hk)
        (try clear hi)
        (try clear ho0)
        obtain ⟨Ao70, co70, eo70⟩ := Kd.R_slice HO768.out
        (first | subst eo70 | (injection eo70 with f1_ f2_ f3_; have f4_ := f1_.symm; have f5_ := f3_.symm; clear f1_ f2_ f3_; subst f4_; subst f5_))
        refine hK.out _ _ ⟨(kQC BK757.out 0).trans rfl, (kQC BK757.out 1).trans rfl, (kQC BK735.out 0).trans rfl, (kQC BK735.out 1).trans rfl⟩ (fun hHeld => ?_)
        clear hK K
        refine norm_ (a' := ?_) ?_ ?_
        rotate_left
        ·show Act.put _ (some 55) _ = _
         simp only [Act.put, qSa, qSb, qSc, i64_w, i32_w]
         rfl
        refine one_ (i := 3) (N := some 56) #[true, true, true, true, false] rfl rfl (by kernel_rfl) (by decide) (fun K hK => ?_)
        refine goes_ Try.func19 (by kernel_rfl) rfl #[.agg #[.int .i64 t753, .slice Ao53 t754.length co53], .agg #[.int .i64 t765, .slice Ao70 t766.length co70]] (by rfl) rfl rfl (by (try simp only [List.map_toArray, List.map_cons, List.map_nil]); first | done | rfl | (simp only [List.length_drop, List.length_take]; rfl)) ?_
        with_reducible refine (laws_eqMatrix.calls kj24 t753 _ _ t754 t765 _ _ t766 true _ ?side1 ?side2 ?side3 ?side4 A62.out).mono ?_
        (case side1 => repeat (first | exact (Kd.R_reads' HO_758001.out).2.2 | (with_reducible refine Kd.CqA ?_ _) | (with_reducible refine Kd.CqN ?_ _) | (with_reducible refine Kd.CqD ?_)))
        (case side2 => exact (Kd.R_reads' HO_758001.out).2.1)
        (case side3 => repeat (first | exact (Kd.R_reads' HO768.out).2.2 | (with_reducible refine Kd.CqA ?_ _) | (with_reducible refine Kd.CqN ?_ _) | (with_reducible refine Kd.CqD ?_)))
        (case side4 => exact (Kd.R_reads' HO768.out).2.1)
        rintro e w71 ⟨rfl, hb⟩
        refine ⟨_, rfl, ?_⟩
        have n0_ := Aq.mk (Kd.R_below (by (with_reducible repeat (first | apply Kd.RqA | apply Kd.RqN | apply Kd.RqD)); exact HO_753001.out) hb)
        have n1_ := Aq.mk (Kd.R_below (by (with_reducible repeat (first | apply Kd.RqA | apply Kd.RqN | apply Kd.RqD)); exact HO_758001.out) hb)
        have n2_ := Aq.mk (Kd.R_below (by (with_reducible repeat (first | apply Kd.RqA | apply Kd.RqN | apply Kd.RqD)); exact HO763.out) hb)
        have n3_ := Aq.mk (Kd.R_below (by (with_reducible repeat (first | apply Kd.RqA | apply Kd.RqN | apply Kd.RqD)); exact HO768.out) hb)
        have n4_ := Aq.mk (kQB (g := gb734) (o := .cells #[.int .i64 a0_0, .slice A0_1 l0_1.length c0_1] 24 (0, 0)) (by (with_reducible repeat (first | refine kQN ?_ _ | refine kQD ?_ | refine kQA ?_ _)); exact BK734.out) hb)
        have n5_ := Aq.mk (kQB (g := gb735) (o := .cells #[.int .i64 a1_0, .slice A1_1 l1_1.length c1_1] 24 (0, 0)) (by (with_reducible repeat (first | refine kQN ?_ _ | refine kQD ?_ | refine kQA ?_ _)); exact BK735.out) hb)
        have n6_ := Aq.mk (kQB (g := gb752) (o := .cells #[.int .i64 t748, .slice Ao45 t749.length co45] 26 (0, 0)) (by (with_reducible repeat (first | refine kQN ?_ _ | refine kQD ?_ | refine kQA ?_ _)); exact BK752.out) hb)
        have n7_ := Aq.mk (kQB (g := gb757) (o := .cells #[.int .i64 t753, .slice Ao53 t754.length co53] 26 (0, 0)) (by (with_reducible repeat (first | refine kQN ?_ _ | refine kQD ?_ | refine kQA ?_ _)); exact BK757.out) hb)
        have n8_ := Aq.mk (bQT (by repeat (first | (with_reducible first | exact HB.out | apply bQA | apply bQN | apply bQ1 | refine bQS ?_ GE734.out | refine bQS ?_ GE735.out | refine bQS ?_ GE752.out | refine bQS ?_ GE757.out) | exact HB.out)) hb)
        clear HO_753001
        clear HO_758001
        clear HO763
        clear HO768
        clear BK734
        clear BK735
        clear BK752
        clear BK757
        clear HB
        have HO_753001 := n0_
        have HO_758001 := n1_
        have HO763 := n2_
        have HO768 := n3_
        have BK734 := n4_
        have BK735 := n5_
        have BK752 := n6_
        have BK757 := n7_
        have HB := n8_
        clear n0_ n1_ n2_ n3_ n4_ n5_ n6_ n7_ n8_
        (try clear hb)
        (try clear hb2)
        (try clear hk)
        (try clear hi)
        refine hK.out _ _ ⟨(kQC BK757.out 0).trans rfl, (kQC BK757.out 1).trans rfl, (kQC BK735.out 0).trans rfl, (kQC BK735.out 1).trans rfl⟩ (fun hHeld => ?_)
        clear hK K
        refine norm_ (a' := ?_) ?_ ?_
        rotate_left
        ·show Act.put _ (some 56) _ = _
         simp only [Act.put, qSa, qSb, qSc, i64_w, i32_w]
         rfl
        refine pure_ (i := 4) (N := some 57) (v := ?_) (a' := ?_) #[true, true, true, true, true] rfl rfl (by kernel_rfl) (fun _ _ _ h => h) (Or.inl ⟨by rfl, ?_⟩) ?_ ?_
        rotate_left
        ·intro w'
         go_simp
         with_reducible rfl
        rotate_left
        ·simp only [Act.put, qSa, qSb, qSc, i64_w, i32_w]
         rfl
        refine done_ (by kernel_rfl) ?_
        try go_wp2
        go_ret
        exact ⟨by first | rfl | (simp [errW_none, errW_some] <;> rfl) | (simp [*, errW_none, errW_some] <;> rfl), by repeat (first | (with_reducible first | exact HB.out | apply bQA | apply bQN | apply bQ1 | refine bQS ?_ GE734.out | refine bQS ?_ GE735.out | refine bQS ?_ GE752.out | refine bQS ?_ GE757.out) | exact HB.out)⟩
       ·replace c63 := Bool.eq_false_iff.mpr c63
        subst c63
        have H1 : (some false) = some r := by rw [if_neg (show ¬ (false = true) by decide)] at H; exact H
        clear H
        have H := H1
        clear H1
        obtain rfl := Option.some.inj H
        try go_wp2
        have n0_ := Aq.mk (Kd.RqD HO_753001.out)
        have n1_ := Aq.mk (Kd.RqD HO_758001.out)
        have n2_ := Aq.mk (kQD BK734.out)
        have n3_ := Aq.mk (kQD BK735.out)
        have n4_ := Aq.mk (kQD BK752.out)
        have n5_ := Aq.mk (kQD BK757.out)
        have n6_ := Aq.mk (bQ1 HB.out)
        clear HO_753001
        clear HO_758001
        clear BK734
        clear BK735
        clear BK752
        clear BK757
        clear HB
        have HO_753001 := n0_
        have HO_758001 := n1_
        have BK734 := n2_
        have BK735 := n3_
        have BK752 := n4_
        have BK757 := n5_
        have HB := n6_
        clear n0_ n1_ n2_ n3_ n4_ n5_ n6_
        refine start_ (n := 5) (S := fun w' => w'.cell? ⟨gb752, 0, none⟩ = some (.int .i64 t748) ∧ w'.cell? ⟨gb752, 1, none⟩ = some (.slice Ao45 t749.length co45) ∧ w'.cell? ⟨gb734, 0, none⟩ = some (.int .i64 a0_0) ∧ w'.cell? ⟨gb734, 1, none⟩ = some (.slice A0_1 l0_1.length c0_1)) (ds := []) #[false, false, false, false, false] (by kernel_rfl) rfl rfl ⟨(kQC BK752.out 0).trans rfl, (kQC BK752.out 1).trans rfl, (kQC BK734.out 0).trans rfl, (kQC BK734.out 1).trans rfl⟩ (fun hHeld => ?_)
        generalize wc.drew = w72 at HO_753001 HO_758001 BK734 BK735 BK752 BK757 HB hHeld ⊢
        refine take_ (i := 0) (N := some 48) (v := ?_) (a' := ?_) #[true, false, false, false, false] rfl rfl (by kernel_rfl) (fun _ _ _ h => h) (Or.inl ⟨by rfl, ?_⟩) hHeld ?_ ?_
        rotate_left
        ·rintro w' ⟨s0, s1, s2, s3⟩
         go_simp
         with_reducible rfl
        rotate_left
        ·simp only [Act.put, qSa, qSb, qSc, i64_w, i32_w]
         rfl
        refine take_ (i := 1) (N := some 49) (v := ?_) (a' := ?_) #[true, true, false, false, false] rfl rfl (by kernel_rfl) (fun _ _ _ h => h) (Or.inl ⟨by rfl, ?_⟩) hHeld ?_ ?_
        rotate_left
        ·rintro w' ⟨s0, s1, s2, s3⟩
         go_simp
         with_reducible rfl
        rotate_left
        ·simp only [Act.put, qSa, qSb, qSc, i64_w, i32_w]
         rfl
        refine one_ (i := 2) (N := some 50) #[true, true, true, false, false] rfl rfl (by kernel_rfl) (by decide) (fun K hK => ?_)
        refine goes_ Try.func17 (by kernel_rfl) rfl #[.agg #[.int .i64 a0_0, .slice A0_1 l0_1.length c0_1]] (by rfl) rfl rfl (by (try simp only [List.map_toArray, List.map_cons, List.map_nil]); first | done | rfl | (simp only [List.length_drop, List.length_take]; rfl)) ?_
        with_reducible refine (laws_toMatrix.calls kj24 a0_0 _ _ l0_1 t760 t761 _ ?side1 ?side2 A58.out).mono ?_
        (case side1 => repeat (first | exact (Kd.C_below HR0_1.out HB.out) | (with_reducible refine Kd.CqA ?_ _) | (with_reducible refine Kd.CqN ?_ _) | (with_reducible refine Kd.CqD ?_)))
        (case side2 => exact HC0_1.out)
        rintro e w73 ⟨v762, rfl, ho0, hb⟩
        refine ⟨_, rfl, ?_⟩
        have n0_ := Aq.mk (Kd.R_elder' (by (with_reducible repeat (first | apply Kd.RqA | apply Kd.RqN | apply Kd.RqD)); exact HO_753001.out) (Kd.R_base ho0) hb)
        have n1_ := Aq.mk (Kd.R_elder' (by (with_reducible repeat (first | apply Kd.RqA | apply Kd.RqN | apply Kd.RqD)); exact HO_758001.out) (Kd.R_base ho0) hb)
        have n2_ := Aq.mk (Kd.R_lower (Kd.R_new' (Kd.R_new' ho0 (Kd.R_lt (by (with_reducible repeat (first | apply Kd.RqA | apply Kd.RqN | apply Kd.RqD)); exact HO_753001.out))) (Kd.R_lt (by (with_reducible repeat (first | apply Kd.RqA | apply Kd.RqN | apply Kd.RqD)); exact HO_758001.out))) (bQZ (by repeat (first | (with_reducible first | exact HB.out | apply bQA | apply bQN | apply bQ1 | refine bQS ?_ GE734.out | refine bQS ?_ GE735.out | refine bQS ?_ GE752.out | refine bQS ?_ GE757.out) | exact HB.out))))
        have n3_ := Aq.mk (kQB (g := gb734) (o := .cells #[.int .i64 a0_0, .slice A0_1 l0_1.length c0_1] 24 (0, 0)) (by (with_reducible repeat (first | refine kQN ?_ _ | refine kQD ?_ | refine kQA ?_ _)); exact BK734.out) hb)
        have n4_ := Aq.mk (kQB (g := gb735) (o := .cells #[.int .i64 a1_0, .slice A1_1 l1_1.length c1_1] 24 (0, 0)) (by (with_reducible repeat (first | refine kQN ?_ _ | refine kQD ?_ | refine kQA ?_ _)); exact BK735.out) hb)
        have n5_ := Aq.mk (kQB (g := gb752) (o := .cells #[.int .i64 t748, .slice Ao45 t749.length co45] 26 (0, 0)) (by (with_reducible repeat (first | refine kQN ?_ _ | refine kQD ?_ | refine kQA ?_ _)); exact BK752.out) hb)
        have n6_ := Aq.mk (kQB (g := gb757) (o := .cells #[.int .i64 t753, .slice Ao53 t754.length co53] 26 (0, 0)) (by (with_reducible repeat (first | refine kQN ?_ _ | refine kQD ?_ | refine kQA ?_ _)); exact BK757.out) hb)
        have n7_ := Aq.mk (bQT (by repeat (first | (with_reducible first | exact HB.out | apply bQA | apply bQN | apply bQ1 | refine bQS ?_ GE734.out | refine bQS ?_ GE735.out | refine bQS ?_ GE752.out | refine bQS ?_ GE757.out) | exact HB.out)) hb)
        clear HO_753001
        clear HO_758001
        clear BK734
        clear BK735
        clear BK752
        clear BK757
        clear HB
        have HO_753001 := n0_
        have HO_758001 := n1_
        have HO763 := n2_
        have BK734 := n3_
        have BK735 := n4_
        have BK752 := n5_
        have BK757 := n6_
        have HB := n7_
        clear n0_ n1_ n2_ n3_ n4_ n5_ n6_ n7_
        (try clear hb)
        (try clear hb2)
        (try clear hk)
        (try clear hi)
        (try clear ho0)
        obtain ⟨Ao74, co74, eo74⟩ := Kd.R_slice HO763.out
        (first | subst eo74 | (injection eo74 with f1_ f2_ f3_; have f4_ := f1_.symm; have f5_ := f3_.symm; clear f1_ f2_ f3_; subst f4_; subst f5_))
        refine hK.out _ _ ⟨(kQC BK752.out 0).trans rfl, (kQC BK752.out 1).trans rfl, (kQC BK734.out 0).trans rfl, (kQC BK734.out 1).trans rfl⟩ (fun hHeld => ?_)
        clear hK K
        refine norm_ (a' := ?_) ?_ ?_
        rotate_left
        ·show Act.put _ (some 50) _ = _
         simp only [Act.put, qSa, qSb, qSc, i64_w, i32_w]
         rfl
        refine one_ (i := 3) (N := some 51) #[true, true, true, true, false] rfl rfl (by kernel_rfl) (by decide) (fun K hK => ?_)
        refine goes_ Try.func19 (by kernel_rfl) rfl #[.agg #[.int .i64 t748, .slice Ao45 t749.length co45], .agg #[.int .i64 t760, .slice Ao74 t761.length co74]] (by rfl) rfl rfl (by (try simp only [List.map_toArray, List.map_cons, List.map_nil]); first | done | rfl | (simp only [List.length_drop, List.length_take]; rfl)) ?_
        with_reducible refine (laws_eqMatrix.calls kj24 t748 _ _ t749 t760 _ _ t761 true _ ?side1 ?side2 ?side3 ?side4 A59.out).mono ?_
        (case side1 => repeat (first | exact (Kd.R_reads' HO_753001.out).2.2 | (with_reducible refine Kd.CqA ?_ _) | (with_reducible refine Kd.CqN ?_ _) | (with_reducible refine Kd.CqD ?_)))
        (case side2 => exact (Kd.R_reads' HO_753001.out).2.1)
        (case side3 => repeat (first | exact (Kd.R_reads' HO763.out).2.2 | (with_reducible refine Kd.CqA ?_ _) | (with_reducible refine Kd.CqN ?_ _) | (with_reducible refine Kd.CqD ?_)))
        (case side4 => exact (Kd.R_reads' HO763.out).2.1)
        rintro e w75 ⟨rfl, hb⟩
        refine ⟨_, rfl, ?_⟩
        have n0_ := Aq.mk (Kd.R_below (by (with_reducible repeat (first | apply Kd.RqA | apply Kd.RqN | apply Kd.RqD)); exact HO_753001.out) hb)
        have n1_ := Aq.mk (Kd.R_below (by (with_reducible repeat (first | apply Kd.RqA | apply Kd.RqN | apply Kd.RqD)); exact HO_758001.out) hb)
        have n2_ := Aq.mk (Kd.R_below (by (with_reducible repeat (first | apply Kd.RqA | apply Kd.RqN | apply Kd.RqD)); exact HO763.out) hb)
        have n3_ := Aq.mk (kQB (g := gb734) (o := .cells #[.int .i64 a0_0, .slice A0_1 l0_1.length c0_1] 24 (0, 0)) (by (with_reducible repeat (first | refine kQN ?_ _ | refine kQD ?_ | refine kQA ?_ _)); exact BK734.out) hb)
        have n4_ := Aq.mk (kQB (g := gb735) (o := .cells #[.int .i64 a1_0, .slice A1_1 l1_1.length c1_1] 24 (0, 0)) (by (with_reducible repeat (first | refine kQN ?_ _ | refine kQD ?_ | refine kQA ?_ _)); exact BK735.out) hb)
        have n5_ := Aq.mk (kQB (g := gb752) (o := .cells #[.int .i64 t748, .slice Ao45 t749.length co45] 26 (0, 0)) (by (with_reducible repeat (first | refine kQN ?_ _ | refine kQD ?_ | refine kQA ?_ _)); exact BK752.out) hb)
        have n6_ := Aq.mk (kQB (g := gb757) (o := .cells #[.int .i64 t753, .slice Ao53 t754.length co53] 26 (0, 0)) (by (with_reducible repeat (first | refine kQN ?_ _ | refine kQD ?_ | refine kQA ?_ _)); exact BK757.out) hb)
        have n7_ := Aq.mk (bQT (by repeat (first | (with_reducible first | exact HB.out | apply bQA | apply bQN | apply bQ1 | refine bQS ?_ GE734.out | refine bQS ?_ GE735.out | refine bQS ?_ GE752.out | refine bQS ?_ GE757.out) | exact HB.out)) hb)
        clear HO_753001
        clear HO_758001
        clear HO763
        clear BK734
        clear BK735
        clear BK752
        clear BK757
        clear HB
        have HO_753001 := n0_
        have HO_758001 := n1_
        have HO763 := n2_
        have BK734 := n3_
        have BK735 := n4_
        have BK752 := n5_
        have BK757 := n6_
        have HB := n7_
        clear n0_ n1_ n2_ n3_ n4_ n5_ n6_ n7_
        (try clear hb)
        (try clear hb2)
        (try clear hk)
        (try clear hi)
        refine hK.out _ _ ⟨(kQC BK752.out 0).trans rfl, (kQC BK752.out 1).trans rfl, (kQC BK734.out 0).trans rfl, (kQC BK734.out 1).trans rfl⟩ (fun hHeld => ?_)
        clear hK K
        refine norm_ (a' := ?_) ?_ ?_
        rotate_left
        ·show Act.put _ (some 51) _ = _
         simp only [Act.put, qSa, qSb, qSc, i64_w, i32_w]
         rfl
        refine pure_ (i := 4) (N := some 52) (v := ?_) (a' := ?_) #[true, true, true, true, true] rfl rfl (by kernel_rfl) (fun _ _ _ h => h) (Or.inl ⟨by rfl, ?_⟩) ?_ ?_
        rotate_left
        ·intro w'
         go_simp
         with_reducible rfl
        rotate_left
        ·simp only [Act.put, qSa, qSb, qSc, i64_w, i32_w]
         rfl
        refine done_ (by kernel_rfl) ?_
        try go_wp2
        have n0_ := Aq.mk (Kd.RqD HO_753001.out)
        have n1_ := Aq.mk (Kd.RqD HO_758001.out)
        have n2_ := Aq.mk (Kd.RqD HO763.out)
        have n3_ := Aq.mk (kQD BK734.out)
        have n4_ := Aq.mk (kQD BK735.out)
        have n5_ := Aq.mk (kQD BK752.out)
        have n6_ := Aq.mk (kQD BK757.out)
        have n7_ := Aq.mk (bQ1 HB.out)
        clear HO_753001
        clear HO_758001
        clear HO763
        clear BK734
        clear BK735
        clear BK752
        clear BK757
        clear HB
        have HO_753001 := n0_
        have HO_758001 := n1_
        have HO763 := n2_
        have BK734 := n3_
        have BK735 := n4_
        have BK752 := n5_
        have BK757 := n6_
        have HB := n7_
        clear n0_ n1_ n2_ n3_ n4_ n5_ n6_ n7_
        refine start_ (n := 5) (S := fun w' => w'.cell? ⟨gb757, 0, none⟩ = some (.int .i64 t753) ∧ w'.cell? ⟨gb757, 1, none⟩ = some (.slice Ao53 t754.length co53) ∧ w'.cell? ⟨gb735, 0, none⟩ = some (.int .i64 a1_0) ∧ w'.cell? ⟨gb735, 1, none⟩ = some (.slice A1_1 l1_1.length c1_1)) (ds := []) #[false, false, false, false, false] (by kernel_rfl) rfl rfl ⟨(kQC BK757.out 0).trans rfl, (kQC BK757.out 1).trans rfl, (kQC BK735.out 0).trans rfl, (kQC BK735.out 1).trans rfl⟩ (fun hHeld => ?_)
        generalize w75.drew = w76 at HO_753001 HO_758001 HO763 BK734 BK735 BK752 BK757 HB hHeld ⊢
        refine take_ (i := 0) (N := some 53) (v := ?_) (a' := ?_) #[true, false, false, false, false] rfl rfl (by kernel_rfl) (fun _ _ _ h => h) (Or.inl ⟨by rfl, ?_⟩) hHeld ?_ ?_
        rotate_left
        ·rintro w' ⟨s0, s1, s2, s3⟩
         go_simp
         with_reducible rfl
        rotate_left
        ·simp only [Act.put, qSa, qSb, qSc, i64_w, i32_w]
         rfl
        refine take_ (i := 1) (N := some 54) (v := ?_) (a' := ?_) #[true, true, false, false, false] rfl rfl (by kernel_rfl) (fun _ _ _ h => h) (Or.inl ⟨by rfl, ?_⟩) hHeld ?_ ?_
        rotate_left
        ·rintro w' ⟨s0, s1, s2, s3⟩
         go_simp
         with_reducible rfl
        rotate_left
        ·simp only [Act.put, qSa, qSb, qSc, i64_w, i32_w]
         rfl
        refine one_ (i := 2) (N := some 55) #[true, true, true, false, false] rfl rfl (by kernel_rfl) (by decide) (fun K hK => ?_)
        refine goes_ Try.func17 (by kernel_rfl) rfl #[.agg #[.int .i64 a1_0, .slice A1_1 l1_1.length c1_1]] (by rfl) rfl rfl (by (try simp only [List.map_toArray, List.map_cons, List.map_nil]); first | done | rfl | (simp only [List.length_drop, List.length_take]; rfl)) ?_
        with_reducible refine (laws_toMatrix.calls kj24 a1_0 _ _ l1_1 t765 t766 _ ?side1 ?side2 A61.out).mono ?_
        (case side1 => repeat (first | exact (Kd.C_below HR1_1.out HB.out) | (with_reducible refine Kd.CqA ?_ _) | (with_reducible refine Kd.CqN ?_ _) | (with_reducible refine Kd.CqD ?_)))
        (case side2 => exact HC1_1.out)
        rintro e w77 ⟨v767, rfl, ho0, hb⟩
        refine ⟨_, rfl, ?_⟩
        have n0_ := Aq.mk (Kd.R_elder' (by (with_reducible repeat (first | apply Kd.RqA | apply Kd.RqN | apply Kd.RqD)); exact HO_753001.out) (Kd.R_base ho0) hb)
        have n1_ := Aq.mk (Kd.R_elder' (by (with_reducible repeat (first | apply Kd.RqA | apply Kd.RqN | apply Kd.RqD)); exact HO_758001.out) (Kd.R_base ho0) hb)
        have n2_ := Aq.mk (Kd.R_elder' (by (with_reducible repeat (first | apply Kd.RqA | apply Kd.RqN | apply Kd.RqD)); exact HO763.out) (Kd.R_base ho0) hb)
        have n3_ := Aq.mk (Kd.R_lower (Kd.R_new' (Kd.R_new' (Kd.R_new' ho0 (Kd.R_lt (by (with_reducible repeat (first | apply Kd.RqA | apply Kd.RqN | apply Kd.RqD)); exact HO_753001.out))) (Kd.R_lt (by (with_reducible repeat (first | apply Kd.RqA | apply Kd.RqN | apply Kd.RqD)); exact HO_758001.out))) (Kd.R_lt (by (with_reducible repeat (first | apply Kd.RqA | apply Kd.RqN | apply Kd.RqD)); exact HO763.out))) (bQZ (by repeat (first | (with_reducible first | exact HB.out | apply bQA | apply bQN | apply bQ1 | refine bQS ?_ GE734.out | refine bQS ?_ GE735.out | refine bQS ?_ GE752.out | refine bQS ?_ GE757.out) | exact HB.out))))
        have n4_ := Aq.mk (kQB (g := gb734) (o := .cells #[.int .i64 a0_0, .slice A0_1 l0_1.length c0_1] 24 (0, 0)) (by (with_reducible repeat (first | refine kQN ?_ _ | refine kQD ?_ | refine kQA ?_ _)); exact BK734.out) hb)
        have n5_ := Aq.mk (kQB (g := gb735) (o := .cells #[.int .i64 a1_0, .slice A1_1 l1_1.length c1_1] 24 (0, 0)) (by (with_reducible repeat (first | refine kQN ?_ _ | refine kQD ?_ | refine kQA ?_ _)); exact BK735.out) hb)
        have n6_ := Aq.mk (kQB (g := gb752) (o := .cells #[.int .i64 t748, .slice Ao45 t749.length co45] 26 (0, 0)) (by (with_reducible repeat (first | refine kQN ?_ _ | refine kQD ?_ | refine kQA ?_ _)); exact BK752.out) hb)
        have n7_ := Aq.mk (kQB (g := gb757) (o := .cells #[.int .i64 t753, .slice Ao53 t754.length co53] 26 (0, 0)) (by (with_reducible repeat (first | refine kQN ?_ _ | refine kQD ?_ | refine kQA ?_ _)); exact BK757.out) hb)
        have n8_ := Aq.mk (bQT (by repeat (first | (with_reducible first | exact HB.out | apply bQA | apply bQN | apply bQ1 | refine bQS ?_ GE734.out | refine bQS ?_ GE735.out | refine bQS ?_ GE752.out | refine bQS ?_ GE757.out) | exact HB.out)) hb)
        clear HO_753001
        clear HO_758001
        clear HO763
        clear BK734
        clear BK735
        clear BK752
        clear BK757
        clear HB
        have HO_753001 := n0_
        have HO_758001 := n1_
        have HO763 := n2_
        have HO768 := n3_
        have BK734 := n4_
        have BK735 := n5_
        have BK752 := n6_
        have BK757 := n7_
        have HB := n8_
        clear n0_ n1_ n2_ n3_ n4_ n5_ n6_ n7_ n8_
        (try clear hb)
        (try clear hb2)
        (try clear hk)
        (try clear hi)
        (try clear ho0)
        obtain ⟨Ao78, co78, eo78⟩ := Kd.R_slice HO768.out
        (first | subst eo78 | (injection eo78 with f1_ f2_ f3_; have f4_ := f1_.symm; have f5_ := f3_.symm; clear f1_ f2_ f3_; subst f4_; subst f5_))
        refine hK.out _ _ ⟨(kQC BK757.out 0).trans rfl, (kQC BK757.out 1).trans rfl, (kQC BK735.out 0).trans rfl, (kQC BK735.out 1).trans rfl⟩ (fun hHeld => ?_)
        clear hK K
        refine norm_ (a' := ?_) ?_ ?_
        rotate_left
        ·show Act.put _ (some 55) _ = _
         simp only [Act.put, qSa, qSb, qSc, i64_w, i32_w]
         rfl
        refine one_ (i := 3) (N := some 56) #[true, true, true, true, false] rfl rfl (by kernel_rfl) (by decide) (fun K hK => ?_)
        refine goes_ Try.func19 (by kernel_rfl) rfl #[.agg #[.int .i64 t753, .slice Ao53 t754.length co53], .agg #[.int .i64 t765, .slice Ao78 t766.length co78]] (by rfl) rfl rfl (by (try simp only [List.map_toArray, List.map_cons, List.map_nil]); first | done | rfl | (simp only [List.length_drop, List.length_take]; rfl)) ?_
        with_reducible refine (laws_eqMatrix.calls kj24 t753 _ _ t754 t765 _ _ t766 false _ ?side1 ?side2 ?side3 ?side4 A62.out).mono ?_
        (case side1 => repeat (first | exact (Kd.R_reads' HO_758001.out).2.2 | (with_reducible refine Kd.CqA ?_ _) | (with_reducible refine Kd.CqN ?_ _) | (with_reducible refine Kd.CqD ?_)))
        (case side2 => exact (Kd.R_reads' HO_758001.out).2.1)
        (case side3 => repeat (first | exact (Kd.R_reads' HO768.out).2.2 | (with_reducible refine Kd.CqA ?_ _) | (with_reducible refine Kd.CqN ?_ _) | (with_reducible refine Kd.CqD ?_)))
        (case side4 => exact (Kd.R_reads' HO768.out).2.1)
        rintro e w79 ⟨rfl, hb⟩
        refine ⟨_, rfl, ?_⟩
        have n0_ := Aq.mk (Kd.R_below (by (with_reducible repeat (first | apply Kd.RqA | apply Kd.RqN | apply Kd.RqD)); exact HO_753001.out) hb)
        have n1_ := Aq.mk (Kd.R_below (by (with_reducible repeat (first | apply Kd.RqA | apply Kd.RqN | apply Kd.RqD)); exact HO_758001.out) hb)
        have n2_ := Aq.mk (Kd.R_below (by (with_reducible repeat (first | apply Kd.RqA | apply Kd.RqN | apply Kd.RqD)); exact HO763.out) hb)
        have n3_ := Aq.mk (Kd.R_below (by (with_reducible repeat (first | apply Kd.RqA | apply Kd.RqN | apply Kd.RqD)); exact HO768.out) hb)
        have n4_ := Aq.mk (kQB (g := gb734) (o := .cells #[.int .i64 a0_0, .slice A0_1 l0_1.length c0_1] 24 (0, 0)) (by (with_reducible repeat (first | refine kQN ?_ _ | refine kQD ?_ | refine kQA ?_ _)); exact BK734.out) hb)
        have n5_ := Aq.mk (kQB (g := gb735) (o := .cells #[.int .i64 a1_0, .slice A1_1 l1_1.length c1_1] 24 (0, 0)) (by (with_reducible repeat (first | refine kQN ?_ _ | refine kQD ?_ | refine kQA ?_ _)); exact BK735.out) hb)
        have n6_ := Aq.mk (kQB (g := gb752) (o := .cells #[.int .i64 t748, .slice Ao45 t749.length co45] 26 (0, 0)) (by (with_reducible repeat (first | refine kQN ?_ _ | refine kQD ?_ | refine kQA ?_ _)); exact BK752.out) hb)
        have n7_ := Aq.mk (kQB (g := gb757) (o := .cells #[.int .i64 t753, .slice Ao53 t754.length co53] 26 (0, 0)) (by (with_reducible repeat (first | refine kQN ?_ _ | refine kQD ?_ | refine kQA ?_ _)); exact BK757.out) hb)
        have n8_ := Aq.mk (bQT (by repeat (first | (with_reducible first | exact HB.out | apply bQA | apply bQN | apply bQ1 | refine bQS ?_ GE734.out | refine bQS ?_ GE735.out | refine bQS ?_ GE752.out | refine bQS ?_ GE757.out) | exact HB.out)) hb)
        clear HO_753001
        clear HO_758001
        clear HO763
        clear HO768
        clear BK734
        clear BK735
        clear BK752
        clear BK757
        clear HB
        have HO_753001 := n0_
        have HO_758001 := n1_
        have HO763 := n2_
        have HO768 := n3_
        have BK734 := n4_
        have BK735 := n5_
        have BK752 := n6_
        have BK757 := n7_
        have HB := n8_
        clear n0_ n1_ n2_ n3_ n4_ n5_ n6_ n7_ n8_
        (try clear hb)
        (try clear hb2)
        (try clear hk)
        (try clear hi)
        refine hK.out _ _ ⟨(kQC BK757.out 0).trans rfl, (kQC BK757.out 1).trans rfl, (kQC BK735.out 0).trans rfl, (kQC BK735.out 1).trans rfl⟩ (fun hHeld => ?_)
        clear hK K
        refine norm_ (a' := ?_) ?_ ?_
        rotate_left
        ·show Act.put _ (some 56) _ = _
         simp only [Act.put, qSa, qSb, qSc, i64_w, i32_w]
         rfl
        refine pure_ (i := 4) (N := some 57) (v := ?_) (a' := ?_) #[true, true, true, true, true] rfl rfl (by kernel_rfl) (fun _ _ _ h => h) (Or.inl ⟨by rfl, ?_⟩) ?_ ?_
        rotate_left
        ·intro w'
         go_simp
         with_reducible rfl
        rotate_left
        ·simp only [Act.put, qSa, qSb, qSc, i64_w, i32_w]
         rfl
        refine done_ (by kernel_rfl) ?_
        try go_wp2
        go_ret
        exact ⟨by first | rfl | (simp [errW_none, errW_some] <;> rfl) | (simp [*, errW_none, errW_some] <;> rfl), by repeat (first | (with_reducible first | exact HB.out | apply bQA | apply bQN | apply bQ1 | refine bQS ?_ GE734.out | refine bQS ?_ GE735.out | refine bQS ?_ GE752.out | refine bQS ?_ GE757.out) | exact HB.out)⟩
      ·replace c60 := Bool.eq_false_iff.mpr c60
       subst c60
       have H1 : (some false) = some r := by rw [if_neg (show ¬ (false = true) by decide)] at H; exact H
       clear H
       have H := H1
       clear H1
       obtain rfl := Option.some.inj H
       try go_wp2
       have n0_ := Aq.mk (Kd.RqD HO_753001.out)
       have n1_ := Aq.mk (Kd.RqD HO_758001.out)
       have n2_ := Aq.mk (kQD BK734.out)
       have n3_ := Aq.mk (kQD BK735.out)
       have n4_ := Aq.mk (kQD BK752.out)
       have n5_ := Aq.mk (kQD BK757.out)
       have n6_ := Aq.mk (bQ1 HB.out)
       clear HO_753001
       clear HO_758001
       clear BK734
       clear BK735
       clear BK752
       clear BK757
       clear HB
       have HO_753001 := n0_
       have HO_758001 := n1_
       have BK734 := n2_
       have BK735 := n3_
       have BK752 := n4_
       have BK757 := n5_
       have HB := n6_
       clear n0_ n1_ n2_ n3_ n4_ n5_ n6_
       refine start_ (n := 5) (S := fun w' => w'.cell? ⟨gb752, 0, none⟩ = some (.int .i64 t748) ∧ w'.cell? ⟨gb752, 1, none⟩ = some (.slice Ao45 t749.length co45) ∧ w'.cell? ⟨gb734, 0, none⟩ = some (.int .i64 a0_0) ∧ w'.cell? ⟨gb734, 1, none⟩ = some (.slice A0_1 l0_1.length c0_1)) (ds := []) #[false, false, false, false, false] (by kernel_rfl) rfl rfl ⟨(kQC BK752.out 0).trans rfl, (kQC BK752.out 1).trans rfl, (kQC BK734.out 0).trans rfl, (kQC BK734.out 1).trans rfl⟩ (fun hHeld => ?_)
       generalize wc.drew = w80 at HO_753001 HO_758001 BK734 BK735 BK752 BK757 HB hHeld ⊢
       refine take_ (i := 0) (N := some 48) (v := ?_) (a' := ?_) #[true, false, false, false, false] rfl rfl (by kernel_rfl) (fun _ _ _ h => h) (Or.inl ⟨by rfl, ?_⟩) hHeld ?_ ?_
       rotate_left
       ·rintro w' ⟨s0, s1, s2, s3⟩
        go_simp
        with_reducible rfl
       rotate_left
       ·simp only [Act.put, qSa, qSb, qSc, i64_w, i32_w]
        rfl
       refine take_ (i := 1) (N := some 49) (v := ?_) (a' := ?_) #[true, true, false, false, false] rfl rfl (by kernel_rfl) (fun _ _ _ h => h) (Or.inl ⟨by rfl, ?_⟩) hHeld ?_ ?_
       rotate_left
       ·rintro w' ⟨s0, s1, s2, s3⟩
        go_simp
        with_reducible rfl
       rotate_left
       ·simp only [Act.put, qSa, qSb, qSc, i64_w, i32_w]
        rfl
       refine one_ (i := 2) (N := some 50) #[true, true, true, false, false] rfl rfl (by kernel_rfl) (by decide) (fun K hK => ?_)
       refine goes_ Try.func17 (by kernel_rfl) rfl #[.agg #[.int .i64 a0_0, .slice A0_1 l0_1.length c0_1]] (by rfl) rfl rfl (by (try simp only [List.map_toArray, List.map_cons, List.map_nil]); first | done | rfl | (simp only [List.length_drop, List.length_take]; rfl)) ?_
       with_reducible refine (laws_toMatrix.calls kj24 a0_0 _ _ l0_1 t760 t761 _ ?side1 ?side2 A58.out).mono ?_
       (case side1 => repeat (first | exact (Kd.C_below HR0_1.out HB.out) | (with_reducible refine Kd.CqA ?_ _) | (with_reducible refine Kd.CqN ?_ _) | (with_reducible refine Kd.CqD ?_)))
       (case side2 => exact HC0_1.out)
       rintro e w81 ⟨v762, rfl, ho0, hb⟩
       refine ⟨_, rfl, ?_⟩
       have n0_ := Aq.mk (Kd.R_elder' (by (with_reducible repeat (first | apply Kd.RqA | apply Kd.RqN | apply Kd.RqD)); exact HO_753001.out) (Kd.R_base ho0) hb)
       have n1_ := Aq.mk (Kd.R_elder' (by (with_reducible repeat (first | apply Kd.RqA | apply Kd.RqN | apply Kd.RqD)); exact HO_758001.out) (Kd.R_base ho0) hb)
       have n2_ := Aq.mk (Kd.R_lower (Kd.R_new' (Kd.R_new' ho0 (Kd.R_lt (by (with_reducible repeat (first | apply Kd.RqA | apply Kd.RqN | apply Kd.RqD)); exact HO_753001.out))) (Kd.R_lt (by (with_reducible repeat (first | apply Kd.RqA | apply Kd.RqN | apply Kd.RqD)); exact HO_758001.out))) (bQZ (by repeat (first | (with_reducible first | exact HB.out | apply bQA | apply bQN | apply bQ1 | refine bQS ?_ GE734.out | refine bQS ?_ GE735.out | refine bQS ?_ GE752.out | refine bQS ?_ GE757.out) | exact HB.out))))
       have n3_ := Aq.mk (kQB (g := gb734) (o := .cells #[.int .i64 a0_0, .slice A0_1 l0_1.length c0_1] 24 (0, 0)) (by (with_reducible repeat (first | refine kQN ?_ _ | refine kQD ?_ | refine kQA ?_ _)); exact BK734.out) hb)
       have n4_ := Aq.mk (kQB (g := gb735) (o := .cells #[.int .i64 a1_0, .slice A1_1 l1_1.length c1_1] 24 (0, 0)) (by (with_reducible repeat (first | refine kQN ?_ _ | refine kQD ?_ | refine kQA ?_ _)); exact BK735.out) hb)
       have n5_ := Aq.mk (kQB (g := gb752) (o := .cells #[.int .i64 t748, .slice Ao45 t749.length co45] 26 (0, 0)) (by (with_reducible repeat (first | refine kQN ?_ _ | refine kQD ?_ | refine kQA ?_ _)); exact BK752.out) hb)
       have n6_ := Aq.mk (kQB (g := gb757) (o := .cells #[.int .i64 t753, .slice Ao53 t754.length co53] 26 (0, 0)) (by (with_reducible repeat (first | refine kQN ?_ _ | refine kQD ?_ | refine kQA ?_ _)); exact BK757.out) hb)
       have n7_ := Aq.mk (bQT (by repeat (first | (with_reducible first | exact HB.out | apply bQA | apply bQN | apply bQ1 | refine bQS ?_ GE734.out | refine bQS ?_ GE735.out | refine bQS ?_ GE752.out | refine bQS ?_ GE757.out) | exact HB.out)) hb)
       clear HO_753001
       clear HO_758001
       clear BK734
       clear BK735
       clear BK752
       clear BK757
       clear HB
       have HO_753001 := n0_
       have HO_758001 := n1_
       have HO763 := n2_
       have BK734 := n3_
       have BK735 := n4_
       have BK752 := n5_
       have BK757 := n6_
       have HB := n7_
       clear n0_ n1_ n2_ n3_ n4_ n5_ n6_ n7_
       (try clear hb)
       (try clear hb2)
       (try clear hk)
       (try clear hi)
       (try clear ho0)
       obtain ⟨Ao82, co82, eo82⟩ := Kd.R_slice HO763.out
       (first | subst eo82 | (injection eo82 with f1_ f2_ f3_; have f4_ := f1_.symm; have f5_ := f3_.symm; clear f1_ f2_ f3_; subst f4_; subst f5_))
       refine hK.out _ _ ⟨(kQC BK752.out 0).trans rfl, (kQC BK752.out 1).trans rfl, (kQC BK734.out 0).trans rfl, (kQC BK734.out 1).trans rfl⟩ (fun hHeld => ?_)
       clear hK K
       refine norm_ (a' := ?_) ?_ ?_
       rotate_left
       ·show Act.put _ (some 50) _ = _
        simp only [Act.put, qSa, qSb, qSc, i64_w, i32_w]
        rfl
       refine one_ (i := 3) (N := some 51) #[true, true, true, true, false] rfl rfl (by kernel_rfl) (by decide) (fun K hK => ?_)
       refine goes_ Try.func19 (by kernel_rfl) rfl #[.agg #[.int .i64 t748, .slice Ao45 t749.length co45], .agg #[.int .i64 t760, .slice Ao82 t761.length co82]] (by rfl) rfl rfl (by (try simp only [List.map_toArray, List.map_cons, List.map_nil]); first | done | rfl | (simp only [List.length_drop, List.length_take]; rfl)) ?_
       with_reducible refine (laws_eqMatrix.calls kj24 t748 _ _ t749 t760 _ _ t761 false _ ?side1 ?side2 ?side3 ?side4 A59.out).mono ?_
       (case side1 => repeat (first | exact (Kd.R_reads' HO_753001.out).2.2 | (with_reducible refine Kd.CqA ?_ _) | (with_reducible refine Kd.CqN ?_ _) | (with_reducible refine Kd.CqD ?_)))
       (case side2 => exact (Kd.R_reads' HO_753001.out).2.1)
       (case side3 => repeat (first | exact (Kd.R_reads' HO763.out).2.2 | (with_reducible refine Kd.CqA ?_ _) | (with_reducible refine Kd.CqN ?_ _) | (with_reducible refine Kd.CqD ?_)))
       (case side4 => exact (Kd.R_reads' HO763.out).2.1)
       rintro e w83 ⟨rfl, hb⟩
       refine ⟨_, rfl, ?_⟩
       have n0_ := Aq.mk (Kd.R_below (by (with_reducible repeat (first | apply Kd.RqA | apply Kd.RqN | apply Kd.RqD)); exact HO_753001.out) hb)
       have n1_ := Aq.mk (Kd.R_below (by (with_reducible repeat (first | apply Kd.RqA | apply Kd.RqN | apply Kd.RqD)); exact HO_758001.out) hb)
       have n2_ := Aq.mk (Kd.R_below (by (with_reducible repeat (first | apply Kd.RqA | apply Kd.RqN | apply Kd.RqD)); exact HO763.out) hb)
       have n3_ := Aq.mk (kQB (g := gb734) (o := .cells #[.int .i64 a0_0, .slice A0_1 l0_1.length c0_1] 24 (0, 0)) (by (with_reducible repeat (first | refine kQN ?_ _ | refine kQD ?_ | refine kQA ?_ _)); exact BK734.out) hb)
       have n4_ := Aq.mk (kQB (g := gb735) (o := .cells #[.int .i64 a1_0, .slice A1_1 l1_1.length c1_1] 24 (0, 0)) (by (with_reducible repeat (first | refine kQN ?_ _ | refine kQD ?_ | refine kQA ?_ _)); exact BK735.out) hb)
       have n5_ := Aq.mk (kQB (g := gb752) (o := .cells #[.int .i64 t748, .slice Ao45 t749.length co45] 26 (0, 0)) (by (with_reducible repeat (first | refine kQN ?_ _ | refine kQD ?_ | refine kQA ?_ _)); exact BK752.out) hb)
       have n6_ := Aq.mk (kQB (g := gb757) (o := .cells #[.int .i64 t753, .slice Ao53 t754.length co53] 26 (0, 0)) (by (with_reducible repeat (first | refine kQN ?_ _ | refine kQD ?_ | refine kQA ?_ _)); exact BK757.out) hb)
       have n7_ := Aq.mk (bQT (by repeat (first | (with_reducible first | exact HB.out | apply bQA | apply bQN | apply bQ1 | refine bQS ?_ GE734.out | refine bQS ?_ GE735.out | refine bQS ?_ GE752.out | refine bQS ?_ GE757.out) | exact HB.out)) hb)
       clear HO_753001
       clear HO_758001
       clear HO763
       clear BK734
       clear BK735
       clear BK752
       clear BK757
       clear HB
       have HO_753001 := n0_
       have HO_758001 := n1_
       have HO763 := n2_
       have BK734 := n3_
       have BK735 := n4_
       have BK752 := n5_
       have BK757 := n6_
       have HB := n7_
       clear n0_ n1_ n2_ n3_ n4_ n5_ n6_ n7_
       (try clear hb)
       (try clear hb2)
       (try clear hk)
       (try clear hi)
       refine hK.out _ _ ⟨(kQC BK752.out 0).trans rfl, (kQC BK752.out 1).trans rfl, (kQC BK734.out 0).trans rfl, (kQC BK734.out 1).trans rfl⟩ (fun hHeld => ?_)
       clear hK K
       refine norm_ (a' := ?_) ?_ ?_
       rotate_left
       ·show Act.put _ (some 51) _ = _
        simp only [Act.put, qSa, qSb, qSc, i64_w, i32_w]
        rfl
       refine pure_ (i := 4) (N := some 52) (v := ?_) (a' := ?_) #[true, true, true, true, true] rfl rfl (by kernel_rfl) (fun _ _ _ h => h) (Or.inl ⟨by rfl, ?_⟩) ?_ ?_
       rotate_left
       ·intro w'
        go_simp
        with_reducible rfl
       rotate_left
       ·simp only [Act.put, qSa, qSb, qSc, i64_w, i32_w]
        rfl
       refine done_ (by kernel_rfl) ?_
       try go_wp2
       go_ret
       exact ⟨by first | rfl | (simp [errW_none, errW_some] <;> rfl) | (simp [*, errW_none, errW_some] <;> rfl), by repeat (first | (with_reducible first | exact HB.out | apply bQA | apply bQN | apply bQ1 | refine bQS ?_ GE734.out | refine bQS ?_ GE735.out | refine bQS ?_ GE752.out | refine bQS ?_ GE757.out) | exact HB.out)⟩
end Go.Proofs.Ytbaicdgkpnbipaa.P
