/- Functions of the program and what they tell, as the printing program wrote it. -/
import Derived.Test.YtbaicdgkpnbipaaPx0
import Derived.Test.YtbaicdgkpnbipaaPx5
import Derived.Test.YtbaicdgkpnbipaaPx10
import Derived.Test.YtbaicdgkpnbipaaPx17
import Derived.Test.YtbaicdgkpnbipaaPx45
namespace Go.Proofs.Ytbaicdgkpnbipaa.P
open Go.Shelf Go.RowKit Go.Proofs.YtbaicdgkpnbipaaW.PrintWords Go.Proofs.YtbaicdgkpnbipaaW.PrintLast Go.Proofs.YtbaicdgkpnbipaaW.PrintMore
attribute [local go_sem] max2_int min2_int max_two min_two max_three min_three max_four min_four
set_option linter.unusedVariables false
set_option linter.unusedSimpArgs false
mutual
def laws_FnExactDualSpace.j0 : Nat → Int → Int → Bool → Int → List Int → Int → List Int → Int → List Int → Int → List Int → Option (Bool)
  | 0, _, _, _, _, _, _, _, _, _, _, _ => none
  | k + 1, x5, x8, x40, x778000, x778001, x789000, x789001, x794000, x794001, x800000, x800001 => if x40 = true then (some false) else ((laws_toMatrix.f k x778000 x778001).bind fun bt801 => ((laws_eqMatrix.f k x794000 x794001 bt801.1 bt801.2).bind fun t805 => (if t805 = true then ((laws_markMatrix.f k x794000 x794001 1).bind fun bt806 => (if bt806.1 < 0 then (laws_FnExactDualSpace.j1 k x5 true x778000 x778001 x789000 x789001 x800000 x800001) else ((laws_eqMatrix.f k x800000 x800001 x789000 x789001).bind fun t808 => (if t808 = true then (laws_FnExactDualSpace.j1 k x5 (x8 != x5) x778000 x778001 x789000 x789001 x800000 x800001) else (laws_FnExactDualSpace.j1 k x5 true x778000 x778001 x789000 x789001 x800000 x800001))))) else (some false))))
def laws_FnExactDualSpace.j1 : Nat → Int → Bool → Int → List Int → Int → List Int → Int → List Int → Option (Bool)
  | 0, _, _, _, _, _, _, _, _ => none
  | k + 1, x5, x61, x778000, x778001, x789000, x789001, x800000, x800001 => if x61 = true then (some false) else ((laws_markMatrix.f k x800000 x800001 1).bind fun bt809 => ((laws_heldMatrix.f k x800000 bt809.2 1).bind fun t811 => (if t811 < 0 then (some false) else (if t811 = bt809.1 then ((laws_toMatrix.f k x778000 x778001).bind fun bt812 => ((impl_DualSpace.f k bt812.1 bt812.2).bind fun bt816 => ((laws_eqMatrix.f k bt816.1 bt816.2.1 x789000 x789001).bind fun t822 => (if t822 = true then (laws_FnExactDualSpace.j2 k bt809.1 (bt816.2.2 != x5) x800000 bt809.2) else (laws_FnExactDualSpace.j2 k bt809.1 true x800000 bt809.2))))) else (some false)))))
def laws_FnExactDualSpace.j2 : Nat → Int → Bool → Int → List Int → Option (Bool)
  | 0, _, _, _, _ => none
  | k + 1, x10, x87, x800000, x800001 => if x87 = true then (some false) else ((laws_heldMatrix.f k x800000 x800001 1).bind fun t823 => (if t823 < 0 then (some false) else (if t823 = x10 then (some true) else (some false))))
end
def laws_FnExactDualSpace.f (k : Nat) (a0_0 : Int) (l0_1 : List Int) : Option (Bool) := (laws_szMatrix.f a0_0 l0_1 1048576).bind fun t778 => (if t778 < 0 then (some true) else ((laws_toMatrix.f k a0_0 l0_1).bind fun bt779 => ((spec_DualSpace.f k bt779.1 bt779.2).bind fun bt783 => ((laws_toMatrix.f k a0_0 l0_1).bind fun bt789 => ((impl_DualSpace.f k bt789.1 bt789.2).bind fun bt794 => ((laws_eqMatrix.f k bt794.1 bt794.2.1 bt783.1 bt783.2.1).bind fun t800 => (if t800 = true then (laws_FnExactDualSpace.j0 k bt783.2.2 bt794.2.2 (bt794.2.2 != bt783.2.2) a0_0 l0_1 bt783.1 bt783.2.1 bt789.1 bt789.2 bt794.1 bt794.2.1) else (laws_FnExactDualSpace.j0 k bt783.2.2 bt794.2.2 true a0_0 l0_1 bt783.1 bt783.2.1 bt789.1 bt789.2 bt794.1 bt794.2.1))))))))
theorem laws_FnExactDualSpace.mono_l : ∀ k, (∀ y0 y1 y2 y3 y4 y5 y6 y7 y8 y9 y10, LeO (laws_FnExactDualSpace.j0 k y0 y1 y2 y3 y4 y5 y6 y7 y8 y9 y10) (laws_FnExactDualSpace.j0 (k + 1) y0 y1 y2 y3 y4 y5 y6 y7 y8 y9 y10)) ∧ (∀ y0 y1 y2 y3 y4 y5 y6 y7, LeO (laws_FnExactDualSpace.j1 k y0 y1 y2 y3 y4 y5 y6 y7) (laws_FnExactDualSpace.j1 (k + 1) y0 y1 y2 y3 y4 y5 y6 y7)) ∧ (∀ y0 y1 y2 y3, LeO (laws_FnExactDualSpace.j2 k y0 y1 y2 y3) (laws_FnExactDualSpace.j2 (k + 1) y0 y1 y2 y3))
 | 0 => ⟨fun _ _ _ _ _ _ _ _ _ _ _ r h => by simp [laws_FnExactDualSpace.j0] at h, fun _ _ _ _ _ _ _ _ r h => by simp [laws_FnExactDualSpace.j1] at h, fun _ _ _ _ r h => by simp [laws_FnExactDualSpace.j2] at h⟩
 | k + 1 => by
  obtain ⟨ih0, ih1, ih2⟩ := laws_FnExactDualSpace.mono_l k
  refine ⟨?_, ?_, ?_⟩
  ·intro y0 y1 y2 y3 y4 y5 y6 y7 y8 y9 y10
   unfold laws_FnExactDualSpace.j0
   repeat' first
   | (with_reducible first | exact ih0 _ _ _ _ _ _ _ _ _ _ _ | exact ih1 _ _ _ _ _ _ _ _ | exact ih2 _ _ _ _ | exact impl_DualSpace.mono _ _ _ | exact laws_eqMatrix.mono _ _ _ _ _ | exact laws_heldMatrix.mono _ _ _ _ | exact laws_markMatrix.mono _ _ _ _ | exact laws_toMatrix.mono _ _ _ | exact spec_DualSpace.mono _ _ _ | exact LeO.refl _ | exact LeO.none _ | refine LeO.ite ?_ ?_ | refine LeO.bind ?_ (fun _ => ?_))
   | exact LeO.none _
   | refine LeO.ite ?_ ?_
   | refine LeO.bind ?_ (fun _ => ?_)
  ·intro y0 y1 y2 y3 y4 y5 y6 y7
   unfold laws_FnExactDualSpace.j1
   repeat' first
   | (with_reducible first | exact ih0 _ _ _ _ _ _ _ _ _ _ _ | exact ih1 _ _ _ _ _ _ _ _ | exact ih2 _ _ _ _ | exact impl_DualSpace.mono _ _ _ | exact laws_eqMatrix.mono _ _ _ _ _ | exact laws_heldMatrix.mono _ _ _ _ | exact laws_markMatrix.mono _ _ _ _ | exact laws_toMatrix.mono _ _ _ | exact spec_DualSpace.mono _ _ _ | exact LeO.refl _ | exact LeO.none _ | refine LeO.ite ?_ ?_ | refine LeO.bind ?_ (fun _ => ?_))
   | exact LeO.none _
   | refine LeO.ite ?_ ?_
   | refine LeO.bind ?_ (fun _ => ?_)
  ·intro y0 y1 y2 y3
   unfold laws_FnExactDualSpace.j2
   repeat' first
   | (with_reducible first | exact ih0 _ _ _ _ _ _ _ _ _ _ _ | exact ih1 _ _ _ _ _ _ _ _ | exact ih2 _ _ _ _ | exact impl_DualSpace.mono _ _ _ | exact laws_eqMatrix.mono _ _ _ _ _ | exact laws_heldMatrix.mono _ _ _ _ | exact laws_markMatrix.mono _ _ _ _ | exact laws_toMatrix.mono _ _ _ | exact spec_DualSpace.mono _ _ _ | exact LeO.refl _ | exact LeO.none _ | refine LeO.ite ?_ ?_ | refine LeO.bind ?_ (fun _ => ?_))
   | exact LeO.none _
   | refine LeO.ite ?_ ?_
   | refine LeO.bind ?_ (fun _ => ?_)
theorem laws_FnExactDualSpace.mono : ∀ a0 a1 k, LeO (laws_FnExactDualSpace.f k a0 a1) (laws_FnExactDualSpace.f (k + 1) a0 a1) := by
 intro a0 a1 k
 obtain ⟨ih0, ih1, ih2⟩ := laws_FnExactDualSpace.mono_l k
 unfold laws_FnExactDualSpace.f
 repeat' first
  | (with_reducible first | exact ih0 _ _ _ _ _ _ _ _ _ _ _ | exact ih1 _ _ _ _ _ _ _ _ | exact ih2 _ _ _ _ | exact impl_DualSpace.mono _ _ _ | exact laws_eqMatrix.mono _ _ _ _ _ | exact laws_heldMatrix.mono _ _ _ _ | exact laws_markMatrix.mono _ _ _ _ | exact laws_toMatrix.mono _ _ _ | exact spec_DualSpace.mono _ _ _ | exact LeO.refl _ | exact LeO.none _ | refine LeO.ite ?_ ?_ | refine LeO.bind ?_ (fun _ => ?_))
  | exact LeO.none _
  | refine LeO.ite ?_ ?_
  | refine LeO.bind ?_ (fun _ => ?_)
set_option maxHeartbeats 8000000 in
set_option maxRecDepth 100000 in
theorem laws_FnExactDualSpace.calls (k : Nat) (a0_0 : Int) (A0_1 : Option Addr) (c0_1 : Nat) (l0_1 : List Int) (r : Bool) (w : World) (hr0_1 : Kd.C (Kd.int .i64) w A0_1 l0_1.length l0_1) (hc0_1 : l0_1.length ≤ c0_1) (h : laws_FnExactDualSpace.f k a0_0 l0_1 = some r) :
 Calls Try.prog 9 #[.agg #[.int .i64 a0_0, .slice A0_1 l0_1.length c0_1]] w fun e w' => e = .returned (.bool r) ∧ Below w.heap.size w w' := by
 have hu24 := Try.underlying24
 have hu26 := Try.underlying26
 have HR0_1 := Aq.mk hr0_1
 have HC0_1 := Aq.mk hc0_1
 clear hr0_1 hc0_1
 have HB := Aq.mk (Below.refl w.heap.size w)
 have H : ((laws_szMatrix.f a0_0 l0_1 1048576).bind fun t778 => (if t778 < 0 then (some true) else ((laws_toMatrix.f k a0_0 l0_1).bind fun bt779 => ((spec_DualSpace.f k bt779.1 bt779.2).bind fun bt783 => ((laws_toMatrix.f k a0_0 l0_1).bind fun bt789 => ((impl_DualSpace.f k bt789.1 bt789.2).bind fun bt794 => ((laws_eqMatrix.f k bt794.1 bt794.2.1 bt783.1 bt783.2.1).bind fun t800 => (if t800 = true then (laws_FnExactDualSpace.j0 k bt783.2.2 bt794.2.2 (bt794.2.2 != bt783.2.2) a0_0 l0_1 bt783.1 bt783.2.1 bt789.1 bt789.2 bt794.1 bt794.2.1) else (laws_FnExactDualSpace.j0 k bt783.2.2 bt794.2.2 true a0_0 l0_1 bt783.1 bt783.2.1 bt789.1 bt789.2 bt794.1 bt794.2.1))))))))) = some r := h
 clear h
 replace H := Option.bind_eq_some_iff.mp H
 obtain ⟨t778, A20, H⟩ := H
 replace H : (if t778 < 0 then (some true) else ((laws_toMatrix.f k a0_0 l0_1).bind fun bt779 => ((spec_DualSpace.f k bt779.1 bt779.2).bind fun bt783 => ((laws_toMatrix.f k a0_0 l0_1).bind fun bt789 => ((impl_DualSpace.f k bt789.1 bt789.2).bind fun bt794 => ((laws_eqMatrix.f k bt794.1 bt794.2.1 bt783.1 bt783.2.1).bind fun t800 => (if t800 = true then (laws_FnExactDualSpace.j0 k bt783.2.2 bt794.2.2 (bt794.2.2 != bt783.2.2) a0_0 l0_1 bt783.1 bt783.2.1 bt789.1 bt789.2 bt794.1 bt794.2.1) else (laws_FnExactDualSpace.j0 k bt783.2.2 bt794.2.2 true a0_0 l0_1 bt783.1 bt783.2.1 bt789.1 bt789.2 bt794.1 bt794.2.1)))))))) = some r := H
 have A2 := Aq.mk A20
 clear A20
 by_cases c3 : t778 < 0
 ·rw [if_pos c3] at H
  have c3b0 : decide (t778 < 0) = true := decide_eq_true c3
  clear c3
  obtain rfl := Option.some.inj H
  go_enter Try.func9, Try.ntmps9
  go_wp2_with (first | ((with_reducible refine gQd (N := 1) rfl ?_); refine xQe ?hg (N := 1) ?hd (cs := #[.int .i64 a0_0, .slice A0_1 l0_1.length c0_1]) (t := 24) ?hr ?_; (case hd => rfl); (case hg => rfl); (case hr => first | (go_simp; done) | (go_simp; rfl)); intro gb777 hg w4 hbox hb; have n0_ := Aq.mk (bQT (by repeat (first | (with_reducible first | exact HB.out | apply bQA | apply bQN | apply bQ1) | exact HB.out)) hb); have n1_ := Aq.mk (hbox); have n2_ := Aq.mk ((by rw [hg]; exact (bQZ (by repeat (first | (with_reducible first | exact HB.out | apply bQA | apply bQN | apply bQ1) | exact HB.out))) : w.heap.size ≤ gb777)); have n3_ := Aq.mk ((by rw [hg]; exact (bQZ (by repeat (first | (with_reducible first | exact HB.out | apply bQA | apply bQN | apply bQ1) | exact HB.out))) : w.heap.size ≤ gb777)); clear HB; have HB := n0_; have BK777 := n1_; have GW777 := n2_; have GE777 := n3_; clear n0_ n1_ n2_ n3_; clear hb hbox hg; have hcz5_0 : w4.cell? ⟨gb777, 0, none⟩ = some (.int .i64 a0_0) := (kQC BK777.out 0).trans rfl; have hcz5_1 : w4.cell? ⟨gb777, 1, none⟩ = some (.slice A0_1 l0_1.length c0_1) := (kQC BK777.out 1).trans rfl; have hfz5_0 := kQF BK777.out 0; have hfz5_1 := kQF BK777.out 1) | ((with_reducible refine gQc (f := 15) rfl ?_); refine goesL_ (some 16) rfl rfl Try.func15 (by kernel_rfl) rfl #[.agg #[.int .i64 a0_0, .slice A0_1 l0_1.length c0_1], .int .i64 1048576] rfl (by (try simp only [List.map_toArray, List.map_cons, List.map_nil]); first | done | rfl | (simp only [List.length_drop, List.length_take]; rfl)) ?_; (with_reducible refine (laws_szMatrix.calls a0_0 _ _ l0_1 1048576 t778 _ ?side1 ?side2 A2.out).mono ?_); (case side1 => repeat (first | exact (Kd.C_below HR0_1.out HB.out) | (with_reducible refine Kd.CqA ?_ _) | (with_reducible refine Kd.CqN ?_ _) | (with_reducible refine Kd.CqD ?_))); (case side2 => exact HC0_1.out); rintro e w6 ⟨rfl, hb⟩; refine ⟨_, rfl, ?_⟩; have n0_ := Aq.mk (kQB (g := gb777) (o := .cells #[.int .i64 a0_0, .slice A0_1 l0_1.length c0_1] 24 (0, 0)) (by (with_reducible repeat (first | refine kQN ?_ _ | refine kQD ?_ | refine kQA ?_ _)); exact BK777.out) hb); have n1_ := Aq.mk (bQT (by repeat (first | (with_reducible first | exact HB.out | apply bQA | apply bQN | apply bQ1 | refine bQS ?_ GE777.out) | exact HB.out)) hb); clear BK777; clear HB; have BK777 := n0_; have HB := n1_; clear n0_ n1_; (try clear hb); (try clear hb2); (try clear hk); (try clear hi)))
  go_ret
  exact ⟨by first | rfl | (simp [errW_none, errW_some] <;> rfl) | (simp [*, errW_none, errW_some] <;> rfl), by repeat (first | (with_reducible first | exact HB.out | apply bQA | apply bQN | apply bQ1 | refine bQS ?_ GE777.out) | exact HB.out)⟩
 ·rw [if_neg c3] at H
  have c3b0 : decide (t778 < 0) = false := decide_eq_false c3
  clear c3
  replace H := Option.bind_eq_some_iff.mp H
  obtain ⟨⟨t779, t780⟩, A70, H⟩ := H
  replace H : ((spec_DualSpace.f k t779 t780).bind fun bt783 => ((laws_toMatrix.f k a0_0 l0_1).bind fun bt789 => ((impl_DualSpace.f k bt789.1 bt789.2).bind fun bt794 => ((laws_eqMatrix.f k bt794.1 bt794.2.1 bt783.1 bt783.2.1).bind fun t800 => (if t800 = true then (laws_FnExactDualSpace.j0 k bt783.2.2 bt794.2.2 (bt794.2.2 != bt783.2.2) a0_0 l0_1 bt783.1 bt783.2.1 bt789.1 bt789.2 bt794.1 bt794.2.1) else (laws_FnExactDualSpace.j0 k bt783.2.2 bt794.2.2 true a0_0 l0_1 bt783.1 bt783.2.1 bt789.1 bt789.2 bt794.1 bt794.2.1)))))) = some r := H
  have A7 := Aq.mk A70
  clear A70
  replace H := Option.bind_eq_some_iff.mp H
  obtain ⟨⟨t783, t784, t787⟩, A80, H⟩ := H
  replace H : ((laws_toMatrix.f k a0_0 l0_1).bind fun bt789 => ((impl_DualSpace.f k bt789.1 bt789.2).bind fun bt794 => ((laws_eqMatrix.f k bt794.1 bt794.2.1 t783 t784).bind fun t800 => (if t800 = true then (laws_FnExactDualSpace.j0 k t787 bt794.2.2 (bt794.2.2 != t787) a0_0 l0_1 t783 t784 bt789.1 bt789.2 bt794.1 bt794.2.1) else (laws_FnExactDualSpace.j0 k t787 bt794.2.2 true a0_0 l0_1 t783 t784 bt789.1 bt789.2 bt794.1 bt794.2.1))))) = some r := H
  have A8 := Aq.mk A80
  clear A80
  replace H := Option.bind_eq_some_iff.mp H
  obtain ⟨⟨t789, t790⟩, A90, H⟩ := H
  replace H : ((impl_DualSpace.f k t789 t790).bind fun bt794 => ((laws_eqMatrix.f k bt794.1 bt794.2.1 t783 t784).bind fun t800 => (if t800 = true then (laws_FnExactDualSpace.j0 k t787 bt794.2.2 (bt794.2.2 != t787) a0_0 l0_1 t783 t784 t789 t790 bt794.1 bt794.2.1) else (laws_FnExactDualSpace.j0 k t787 bt794.2.2 true a0_0 l0_1 t783 t784 t789 t790 bt794.1 bt794.2.1)))) = some r := H
  have A9 := Aq.mk A90
  clear A90
  replace H := Option.bind_eq_some_iff.mp H
  obtain ⟨⟨t794, t795, t798⟩, A100, H⟩ := H
  replace H : ((laws_eqMatrix.f k t794 t795 t783 t784).bind fun t800 => (if t800 = true then (laws_FnExactDualSpace.j0 k t787 t798 (t798 != t787) a0_0 l0_1 t783 t784 t789 t790 t794 t795) else (laws_FnExactDualSpace.j0 k t787 t798 true a0_0 l0_1 t783 t784 t789 t790 t794 t795))) = some r := H
  have A10 := Aq.mk A100
  clear A100
  have HC11 := Aq.mk H
  clear H
  go_enter Try.func9, Try.ntmps9
  go_upto_region 8 with (first | ((with_reducible refine gQd (N := 1) rfl ?_); refine xQe ?hg (N := 1) ?hd (cs := #[.int .i64 a0_0, .slice A0_1 l0_1.length c0_1]) (t := 24) ?hr ?_; (case hd => rfl); (case hg => rfl); (case hr => first | (go_simp; done) | (go_simp; rfl)); intro gb777 hg w12 hbox hb; have n0_ := Aq.mk (bQT (by repeat (first | (with_reducible first | exact HB.out | apply bQA | apply bQN | apply bQ1) | exact HB.out)) hb); have n1_ := Aq.mk (hbox); have n2_ := Aq.mk ((by rw [hg]; exact (bQZ (by repeat (first | (with_reducible first | exact HB.out | apply bQA | apply bQN | apply bQ1) | exact HB.out))) : w.heap.size ≤ gb777)); have n3_ := Aq.mk ((by rw [hg]; exact (bQZ (by repeat (first | (with_reducible first | exact HB.out | apply bQA | apply bQN | apply bQ1) | exact HB.out))) : w.heap.size ≤ gb777)); clear HB; have HB := n0_; have BK777 := n1_; have GW777 := n2_; have GE777 := n3_; clear n0_ n1_ n2_ n3_; clear hb hbox hg; have hcz13_0 : w12.cell? ⟨gb777, 0, none⟩ = some (.int .i64 a0_0) := (kQC BK777.out 0).trans rfl; have hcz13_1 : w12.cell? ⟨gb777, 1, none⟩ = some (.slice A0_1 l0_1.length c0_1) := (kQC BK777.out 1).trans rfl; have hfz13_0 := kQF BK777.out 0; have hfz13_1 := kQF BK777.out 1) | ((with_reducible refine gQc (f := 15) rfl ?_); refine goesL_ (some 16) rfl rfl Try.func15 (by kernel_rfl) rfl #[.agg #[.int .i64 a0_0, .slice A0_1 l0_1.length c0_1], .int .i64 1048576] rfl (by (try simp only [List.map_toArray, List.map_cons, List.map_nil]); first | done | rfl | (simp only [List.length_drop, List.length_take]; rfl)) ?_; (with_reducible refine (laws_szMatrix.calls a0_0 _ _ l0_1 1048576 t778 _ ?side1 ?side2 A2.out).mono ?_); (case side1 => repeat (first | exact (Kd.C_below HR0_1.out HB.out) | (with_reducible refine Kd.CqA ?_ _) | (with_reducible refine Kd.CqN ?_ _) | (with_reducible refine Kd.CqD ?_))); (case side2 => exact HC0_1.out); rintro e w14 ⟨rfl, hb⟩; refine ⟨_, rfl, ?_⟩; have n0_ := Aq.mk (kQB (g := gb777) (o := .cells #[.int .i64 a0_0, .slice A0_1 l0_1.length c0_1] 24 (0, 0)) (by (with_reducible repeat (first | refine kQN ?_ _ | refine kQD ?_ | refine kQA ?_ _)); exact BK777.out) hb); have n1_ := Aq.mk (bQT (by repeat (first | (with_reducible first | exact HB.out | apply bQA | apply bQN | apply bQ1 | refine bQS ?_ GE777.out) | exact HB.out)) hb); clear BK777; clear HB; have BK777 := n0_; have HB := n1_; clear n0_ n1_; (try clear hb); (try clear hb2); (try clear hk); (try clear hi); have hcz15_0 : w14.cell? ⟨gb777, 0, none⟩ = some (.int .i64 a0_0) := (kQC BK777.out 0).trans rfl; have hcz15_1 : w14.cell? ⟨gb777, 1, none⟩ = some (.slice A0_1 l0_1.length c0_1) := (kQC BK777.out 1).trans rfl; have hfz15_0 := kQF BK777.out 0; have hfz15_1 := kQF BK777.out 1) | ((with_reducible refine gQc (f := 17) rfl ?_); refine goesL_ (some 21) rfl rfl Try.func17 (by kernel_rfl) rfl #[.agg #[.int .i64 a0_0, .slice A0_1 l0_1.length c0_1]] rfl (by (try simp only [List.map_toArray, List.map_cons, List.map_nil]); first | done | rfl | (simp only [List.length_drop, List.length_take]; rfl)) ?_; (with_reducible refine (laws_toMatrix.calls k a0_0 _ _ l0_1 t779 t780 _ ?side1 ?side2 A7.out).mono ?_); (case side1 => repeat (first | exact (Kd.C_below HR0_1.out HB.out) | (with_reducible refine Kd.CqA ?_ _) | (with_reducible refine Kd.CqN ?_ _) | (with_reducible refine Kd.CqD ?_))); (case side2 => exact HC0_1.out); rintro e w16 ⟨v781, rfl, ho0, hb⟩; refine ⟨_, rfl, ?_⟩; have n0_ := Aq.mk (Kd.R_lower ho0 (bQZ (by repeat (first | (with_reducible first | exact HB.out | apply bQA | apply bQN | apply bQ1 | refine bQS ?_ GE777.out) | exact HB.out)))); have n1_ := Aq.mk (kQB (g := gb777) (o := .cells #[.int .i64 a0_0, .slice A0_1 l0_1.length c0_1] 24 (0, 0)) (by (with_reducible repeat (first | refine kQN ?_ _ | refine kQD ?_ | refine kQA ?_ _)); exact BK777.out) hb); have n2_ := Aq.mk (bQT (by repeat (first | (with_reducible first | exact HB.out | apply bQA | apply bQN | apply bQ1 | refine bQS ?_ GE777.out) | exact HB.out)) hb); clear BK777; clear HB; have HO782 := n0_; have BK777 := n1_; have HB := n2_; clear n0_ n1_ n2_; (try clear hb); (try clear hb2); (try clear hk); (try clear hi); (try clear ho0); obtain ⟨Ao17, co17, eo17⟩ := Kd.R_slice HO782.out; subst eo17) | ((with_reducible refine gQc (f := 41) rfl ?_); refine goesL_ (some 22) rfl rfl Try.func41 (by kernel_rfl) rfl #[.agg #[.int .i64 t779, .slice Ao17 t780.length co17]] rfl (by (try simp only [List.map_toArray, List.map_cons, List.map_nil]); first | done | rfl | (simp only [List.length_drop, List.length_take]; rfl)) ?_; (with_reducible refine (spec_DualSpace.calls k t779 _ _ t780 t783 t784 t787 _ ?side1 ?side2 A8.out).mono ?_); (case side1 => repeat (first | exact (Kd.R_reads' HO782.out).2.2 | (with_reducible refine Kd.CqA ?_ _) | (with_reducible refine Kd.CqN ?_ _) | (with_reducible refine Kd.CqD ?_))); (case side2 => exact (Kd.R_reads' HO782.out).2.1); rintro e w18 ⟨v785, rfl, ho0, hb⟩; refine ⟨_, rfl, ?_⟩; have n0_ := Aq.mk (Kd.R_elder' (by (with_reducible repeat (first | apply Kd.RqA | apply Kd.RqN | apply Kd.RqD)); exact HO782.out) (Kd.R_base ho0) hb); have n1_ := Aq.mk (Kd.R_lower (Kd.R_new' ho0 (Kd.R_lt (by (with_reducible repeat (first | apply Kd.RqA | apply Kd.RqN | apply Kd.RqD)); exact HO782.out))) (bQZ (by repeat (first | (with_reducible first | exact HB.out | apply bQA | apply bQN | apply bQ1 | refine bQS ?_ GE777.out) | exact HB.out)))); have n2_ := Aq.mk (kQB (g := gb777) (o := .cells #[.int .i64 a0_0, .slice A0_1 l0_1.length c0_1] 24 (0, 0)) (by (with_reducible repeat (first | refine kQN ?_ _ | refine kQD ?_ | refine kQA ?_ _)); exact BK777.out) hb); have n3_ := Aq.mk (bQT (by repeat (first | (with_reducible first | exact HB.out | apply bQA | apply bQN | apply bQ1 | refine bQS ?_ GE777.out) | exact HB.out)) hb); clear HO782; clear BK777; clear HB; have HO782 := n0_; have HO786 := n1_; have BK777 := n2_; have HB := n3_; clear n0_ n1_ n2_ n3_; (try clear hb); (try clear hb2); (try clear hk); (try clear hi); (try clear ho0)) | ((with_reducible refine gQd (N := 4) rfl ?_); refine xQe ?hg (N := 4) ?hd (cs := #[.int .i64 0, .slice none 0 0]) (t := 26) ?hr ?_; (case hd => rfl); (case hg => rfl); (case hr => first | (go_simp; done) | (go_simp; rfl)); intro gb788 hg w19 hbox hb; have n0_ := Aq.mk (Kd.R_below (by (with_reducible repeat (first | apply Kd.RqA | apply Kd.RqN | apply Kd.RqD)); exact HO782.out) hb); have n1_ := Aq.mk (Kd.R_below (by (with_reducible repeat (first | apply Kd.RqA | apply Kd.RqN | apply Kd.RqD)); exact HO786.out) hb); have n2_ := Aq.mk (kQB (g := gb777) (o := .cells #[.int .i64 a0_0, .slice A0_1 l0_1.length c0_1] 24 (0, 0)) (by (with_reducible repeat (first | refine kQN ?_ _ | refine kQD ?_ | refine kQA ?_ _)); exact BK777.out) hb); have n3_ := Aq.mk (bQT (by repeat (first | (with_reducible first | exact HB.out | apply bQA | apply bQN | apply bQ1 | refine bQS ?_ GE777.out) | exact HB.out)) hb); have n4_ := Aq.mk (hbox); have n5_ := Aq.mk ((by rw [hg]; exact (bQZ (by repeat (first | (with_reducible first | exact HB.out | apply bQA | apply bQN | apply bQ1 | refine bQS ?_ GE777.out) | exact HB.out))) : w.heap.size ≤ gb788)); have n6_ := Aq.mk ((by rw [hg]; exact (bQZ (by repeat (first | (with_reducible first | exact HB.out | apply bQA | apply bQN | apply bQ1 | refine bQS ?_ GE777.out) | exact HB.out))) : w.heap.size ≤ gb788)); have n7_ := Aq.mk ((by rw [hg]; exact Nat.ne_of_lt (blk_lt (g := gb777) (o := .cells #[.int .i64 a0_0, .slice A0_1 l0_1.length c0_1] 24 (0, 0)) (by (with_reducible repeat (first | refine kQN ?_ _ | refine kQD ?_ | refine kQA ?_ _)); exact BK777.out)) : gb777 ≠ gb788)); have n8_ := Aq.mk ((by rw [hg]; exact Nat.ne_of_gt (blk_lt (g := gb777) (o := .cells #[.int .i64 a0_0, .slice A0_1 l0_1.length c0_1] 24 (0, 0)) (by (with_reducible repeat (first | refine kQN ?_ _ | refine kQD ?_ | refine kQA ?_ _)); exact BK777.out)) : gb788 ≠ gb777)); clear HO782; clear HO786; clear BK777; clear HB; have HO782 := n0_; have HO786 := n1_; have BK777 := n2_; have HB := n3_; have BK788 := n4_; have GW788 := n5_; have GE788 := n6_; have NB777_788 := n7_; have NB788_777 := n8_; clear n0_ n1_ n2_ n3_ n4_ n5_ n6_ n7_ n8_; clear hb hbox hg; have hnb20 := NB788_777.out; have hnc20 := NB777_788.out; have hcz21_0 : w19.cell? ⟨gb788, 0, none⟩ = some (.int .i64 0) := (kQC BK788.out 0).trans rfl; have hcz21_1 : w19.cell? ⟨gb788, 1, none⟩ = some (.slice none 0 0) := (kQC BK788.out 1).trans rfl; have hfz21_0 := kQF BK788.out 0; have hfz21_1 := kQF BK788.out 1; obtain ⟨Ao22, co22, eo22⟩ := Kd.R_slice HO786.out; subst eo22; have hcz23_0 : w19.cell? ⟨gb777, 0, none⟩ = some (.int .i64 a0_0) := (kQC BK777.out 0).trans rfl; have hcz23_1 : w19.cell? ⟨gb777, 1, none⟩ = some (.slice A0_1 l0_1.length c0_1) := (kQC BK777.out 1).trans rfl; have hfz23_0 := kQF BK777.out 0; have hfz23_1 := kQF BK777.out 1) | ((with_reducible refine gQc (f := 17) rfl ?_); refine goesL_ (some 26) rfl rfl Try.func17 (by kernel_rfl) rfl #[.agg #[.int .i64 a0_0, .slice A0_1 l0_1.length c0_1]] rfl (by (try simp only [List.map_toArray, List.map_cons, List.map_nil]); first | done | rfl | (simp only [List.length_drop, List.length_take]; rfl)) ?_; (with_reducible refine (laws_toMatrix.calls k a0_0 _ _ l0_1 t789 t790 _ ?side1 ?side2 A9.out).mono ?_); (case side1 => exact Kd.C_below HR0_1.out (by repeat (first | (with_reducible first | exact HB.out | apply bQA | apply bQN | apply bQ1 | refine bQS ?_ GE777.out | refine bQS ?_ GE788.out) | exact HB.out))); (case side2 => exact HC0_1.out); rintro e w24 ⟨v791, rfl, ho0, hb⟩; refine ⟨_, rfl, ?_⟩; have n0_ := Aq.mk (Kd.R_elder' (by (with_reducible repeat (first | apply Kd.RqA | apply Kd.RqN | apply Kd.RqD)); exact (Kd.R_mono (Kd.R_far (p := ⟨gb788, 1, none⟩) (Kd.R_far (p := ⟨gb788, 0, none⟩) (Kd.R_types HO782.out BK788.out (by decide)) (fun _ hk => hk.2) (.int .i64 t783)) (fun _ hk => hk.2) (.slice Ao22 t784.length co22)) (fun _ h_ => h_.1))) (Kd.R_base ho0) hb); have n1_ := Aq.mk (Kd.R_elder' (by (with_reducible repeat (first | apply Kd.RqA | apply Kd.RqN | apply Kd.RqD)); exact (Kd.R_mono (Kd.R_far (p := ⟨gb788, 1, none⟩) (Kd.R_far (p := ⟨gb788, 0, none⟩) (Kd.R_types HO786.out BK788.out (by decide)) (fun _ hk => hk.2) (.int .i64 t783)) (fun _ hk => hk.2) (.slice Ao22 t784.length co22)) (fun _ h_ => h_.1))) (Kd.R_base ho0) hb); have n2_ := Aq.mk (Kd.R_lower (Kd.R_new' (Kd.R_new' ho0 (Kd.R_lt (by (with_reducible repeat (first | apply Kd.RqA | apply Kd.RqN | apply Kd.RqD)); exact (Kd.R_mono (Kd.R_far (p := ⟨gb788, 1, none⟩) (Kd.R_far (p := ⟨gb788, 0, none⟩) (Kd.R_types HO782.out BK788.out (by decide)) (fun _ hk => hk.2) (.int .i64 t783)) (fun _ hk => hk.2) (.slice Ao22 t784.length co22)) (fun _ h_ => h_.1))))) (Kd.R_lt (by (with_reducible repeat (first | apply Kd.RqA | apply Kd.RqN | apply Kd.RqD)); exact (Kd.R_mono (Kd.R_far (p := ⟨gb788, 1, none⟩) (Kd.R_far (p := ⟨gb788, 0, none⟩) (Kd.R_types HO786.out BK788.out (by decide)) (fun _ hk => hk.2) (.int .i64 t783)) (fun _ hk => hk.2) (.slice Ao22 t784.length co22)) (fun _ h_ => h_.1))))) (bQZ (by repeat (first | (with_reducible first | exact HB.out | apply bQA | apply bQN | apply bQ1 | refine bQS ?_ GE777.out | refine bQS ?_ GE788.out) | exact HB.out)))); have n3_ := Aq.mk (kQB (g := gb777) (o := .cells #[.int .i64 a0_0, .slice A0_1 l0_1.length c0_1] 24 (0, 0)) (by (with_reducible repeat (first | refine kQN ?_ _ | refine kQD ?_ | refine kQA ?_ _)); refine kQR ?_ NB777_788.out _; (with_reducible repeat (first | refine kQN ?_ _ | refine kQD ?_ | refine kQA ?_ _)); refine kQR ?_ NB777_788.out _; (with_reducible repeat (first | refine kQN ?_ _ | refine kQD ?_ | refine kQA ?_ _)); exact BK777.out) hb); have n4_ := Aq.mk (kQB (g := gb788) (o := .cells #[.int .i64 t783, .slice Ao22 t784.length co22] 26 (0, 0)) (by (with_reducible repeat (first | refine kQN ?_ _ | refine kQD ?_ | refine kQA ?_ _)); refine kQP (cs := #[.int .i64 t783, .slice none 0 0]) ?_ 1 _ rfl; (with_reducible repeat (first | refine kQN ?_ _ | refine kQD ?_ | refine kQA ?_ _)); refine kQP (cs := #[.int .i64 0, .slice none 0 0]) ?_ 0 _ rfl; (with_reducible repeat (first | refine kQN ?_ _ | refine kQD ?_ | refine kQA ?_ _)); exact BK788.out) hb); have n5_ := Aq.mk (bQT (by repeat (first | (with_reducible first | exact HB.out | apply bQA | apply bQN | apply bQ1 | refine bQS ?_ GE777.out | refine bQS ?_ GE788.out) | exact HB.out)) hb); clear HO782; clear HO786; clear BK777; clear BK788; clear HB; have HO782 := n0_; have HO786 := n1_; have HO792 := n2_; have BK777 := n3_; have BK788 := n4_; have HB := n5_; clear n0_ n1_ n2_ n3_ n4_ n5_; (try clear hb); (try clear hb2); (try clear hk); (try clear hi); (try clear ho0)) | ((with_reducible refine gQd (N := 6) rfl ?_); refine xQe ?hg (N := 6) ?hd (cs := #[.int .i64 0, .slice none 0 0]) (t := 26) ?hr ?_; (case hd => rfl); (case hg => rfl); (case hr => first | (go_simp; done) | (go_simp; rfl)); intro gb793 hg w25 hbox hb; have n0_ := Aq.mk (Kd.R_below (by (with_reducible repeat (first | apply Kd.RqA | apply Kd.RqN | apply Kd.RqD)); exact HO782.out) hb); have n1_ := Aq.mk (Kd.R_below (by (with_reducible repeat (first | apply Kd.RqA | apply Kd.RqN | apply Kd.RqD)); exact HO786.out) hb); have n2_ := Aq.mk (Kd.R_below (by (with_reducible repeat (first | apply Kd.RqA | apply Kd.RqN | apply Kd.RqD)); exact HO792.out) hb); have n3_ := Aq.mk (kQB (g := gb777) (o := .cells #[.int .i64 a0_0, .slice A0_1 l0_1.length c0_1] 24 (0, 0)) (by (with_reducible repeat (first | refine kQN ?_ _ | refine kQD ?_ | refine kQA ?_ _)); exact BK777.out) hb); have n4_ := Aq.mk (kQB (g := gb788) (o := .cells #[.int .i64 t783, .slice Ao22 t784.length co22] 26 (0, 0)) (by (with_reducible repeat (first | refine kQN ?_ _ | refine kQD ?_ | refine kQA ?_ _)); exact BK788.out) hb); have n5_ := Aq.mk (bQT (by repeat (first | (with_reducible first | exact HB.out | apply bQA | apply bQN | apply bQ1 | refine bQS ?_ GE777.out | refine bQS ?_ GE788.out) | exact HB.out)) hb); have n6_ := Aq.mk (hbox); have n7_ := Aq.mk ((by rw [hg]; exact (bQZ (by repeat (first | (with_reducible first | exact HB.out | apply bQA | apply bQN | apply bQ1 | refine bQS ?_ GE777.out | refine bQS ?_ GE788.out) | exact HB.out))) : w.heap.size ≤ gb793)); have n8_ := Aq.mk ((by rw [hg]; exact (bQZ (by repeat (first | (with_reducible first | exact HB.out | apply bQA | apply bQN | apply bQ1 | refine bQS ?_ GE777.out | refine bQS ?_ GE788.out) | exact HB.out))) : w.heap.size ≤ gb793)); have n9_ := Aq.mk ((by rw [hg]; exact Nat.ne_of_lt (blk_lt (g := gb777) (o := .cells #[.int .i64 a0_0, .slice A0_1 l0_1.length c0_1] 24 (0, 0)) (by (with_reducible repeat (first | refine kQN ?_ _ | refine kQD ?_ | refine kQA ?_ _)); exact BK777.out)) : gb777 ≠ gb793)); have n10_ := Aq.mk ((by rw [hg]; exact Nat.ne_of_gt (blk_lt (g := gb777) (o := .cells #[.int .i64 a0_0, .slice A0_1 l0_1.length c0_1] 24 (0, 0)) (by (with_reducible repeat (first | refine kQN ?_ _ | refine kQD ?_ | refine kQA ?_ _)); exact BK777.out)) : gb793 ≠ gb777)); have n11_ := Aq.mk ((by rw [hg]; exact Nat.ne_of_lt (blk_lt (g := gb788) (o := .cells #[.int .i64 t783, .slice Ao22 t784.length co22] 26 (0, 0)) (by (with_reducible repeat (first | refine kQN ?_ _ | refine kQD ?_ | refine kQA ?_ _)); exact BK788.out)) : gb788 ≠ gb793)); have n12_ := Aq.mk ((by rw [hg]; exact Nat.ne_of_gt (blk_lt (g := gb788) (o := .cells #[.int .i64 t783, .slice Ao22 t784.length co22] 26 (0, 0)) (by (with_reducible repeat (first | refine kQN ?_ _ | refine kQD ?_ | refine kQA ?_ _)); exact BK788.out)) : gb793 ≠ gb788)); clear HO782; clear HO786; clear HO792; clear BK777; clear BK788; clear HB; have HO782 := n0_; have HO786 := n1_; have HO792 := n2_; have BK777 := n3_; have BK788 := n4_; have HB := n5_; have BK793 := n6_; have GW793 := n7_; have GE793 := n8_; have NB777_793 := n9_; have NB793_777 := n10_; have NB788_793 := n11_; have NB793_788 := n12_; clear n0_ n1_ n2_ n3_ n4_ n5_ n6_ n7_ n8_ n9_ n10_ n11_ n12_; clear hb hbox hg; have hnb26 := NB793_777.out; have hnc26 := NB777_793.out; have hnb27 := NB793_788.out; have hnc27 := NB788_793.out; have hcz28_0 : w25.cell? ⟨gb793, 0, none⟩ = some (.int .i64 0) := (kQC BK793.out 0).trans rfl; have hcz28_1 : w25.cell? ⟨gb793, 1, none⟩ = some (.slice none 0 0) := (kQC BK793.out 1).trans rfl; have hfz28_0 := kQF BK793.out 0; have hfz28_1 := kQF BK793.out 1; obtain ⟨Ao29, co29, eo29⟩ := Kd.R_slice HO792.out; subst eo29) | ((with_reducible refine gQc (f := 31) rfl ?_); refine goesL_ (some 29) rfl rfl Try.func31 (by kernel_rfl) rfl #[.agg #[.int .i64 t789, .slice Ao29 t790.length co29]] rfl (by (try simp only [List.map_toArray, List.map_cons, List.map_nil]); first | done | rfl | (simp only [List.length_drop, List.length_take]; rfl)) ?_; (with_reducible refine (impl_DualSpace.calls k t789 _ _ t790 t794 t795 t798 _ ?side1 ?side2 A10.out).mono ?_); (case side1 => refine (Kd.R_reads' (e := 2) (base := w.heap.size) (ok := fun k_ => ((True ∧ some k_ ≠ (.slice Ao17 t780.length co17 : Value).ownBlock) ∧ some k_ ≠ (.slice Ao22 t784.length co22 : Value).ownBlock)) (n := t790.length) (c := co29) ?_).2.2; exact (by (with_reducible repeat (first | apply Kd.RqA | apply Kd.RqN | apply Kd.RqD)); exact (Kd.R_mono (Kd.R_far (p := ⟨gb793, 1, none⟩) (Kd.R_far (p := ⟨gb793, 0, none⟩) (Kd.R_types HO792.out BK793.out (by decide)) (fun _ hk => hk.2) (.int .i64 t789)) (fun _ hk => hk.2) (.slice Ao29 t790.length co29)) (fun _ h_ => h_.1)))); (case side2 => exact (Kd.R_reads' HO792.out).2.1); rintro e w30 ⟨v796, rfl, ho0, hb⟩; refine ⟨_, rfl, ?_⟩; have n0_ := Aq.mk (Kd.R_elder' (by (with_reducible repeat (first | apply Kd.RqA | apply Kd.RqN | apply Kd.RqD)); exact (Kd.R_mono (Kd.R_far (p := ⟨gb793, 1, none⟩) (Kd.R_far (p := ⟨gb793, 0, none⟩) (Kd.R_types HO782.out BK793.out (by decide)) (fun _ hk => hk.2) (.int .i64 t789)) (fun _ hk => hk.2) (.slice Ao29 t790.length co29)) (fun _ h_ => h_.1))) (Kd.R_base ho0) hb); have n1_ := Aq.mk (Kd.R_elder' (by (with_reducible repeat (first | apply Kd.RqA | apply Kd.RqN | apply Kd.RqD)); exact (Kd.R_mono (Kd.R_far (p := ⟨gb793, 1, none⟩) (Kd.R_far (p := ⟨gb793, 0, none⟩) (Kd.R_types HO786.out BK793.out (by decide)) (fun _ hk => hk.2) (.int .i64 t789)) (fun _ hk => hk.2) (.slice Ao29 t790.length co29)) (fun _ h_ => h_.1))) (Kd.R_base ho0) hb); have n2_ := Aq.mk (Kd.R_elder' (by (with_reducible repeat (first | apply Kd.RqA | apply Kd.RqN | apply Kd.RqD)); exact (Kd.R_mono (Kd.R_far (p := ⟨gb793, 1, none⟩) (Kd.R_far (p := ⟨gb793, 0, none⟩) (Kd.R_types HO792.out BK793.out (by decide)) (fun _ hk => hk.2) (.int .i64 t789)) (fun _ hk => hk.2) (.slice Ao29 t790.length co29)) (fun _ h_ => h_.1))) (Kd.R_base ho0) hb); have n3_ := Aq.mk (Kd.R_lower (Kd.R_new' (Kd.R_new' (Kd.R_new' ho0 (Kd.R_lt (by (with_reducible repeat (first | apply Kd.RqA | apply Kd.RqN | apply Kd.RqD)); exact (Kd.R_mono (Kd.R_far (p := ⟨gb793, 1, none⟩) (Kd.R_far (p := ⟨gb793, 0, none⟩) (Kd.R_types HO782.out BK793.out (by decide)) (fun _ hk => hk.2) (.int .i64 t789)) (fun _ hk => hk.2) (.slice Ao29 t790.length co29)) (fun _ h_ => h_.1))))) (Kd.R_lt (by (with_reducible repeat (first | apply Kd.RqA | apply Kd.RqN | apply Kd.RqD)); exact (Kd.R_mono (Kd.R_far (p := ⟨gb793, 1, none⟩) (Kd.R_far (p := ⟨gb793, 0, none⟩) (Kd.R_types HO786.out BK793.out (by decide)) (fun _ hk => hk.2) (.int .i64 t789)) (fun _ hk => hk.2) (.slice Ao29 t790.length co29)) (fun _ h_ => h_.1))))) (Kd.R_lt (by (with_reducible repeat (first | apply Kd.RqA | apply Kd.RqN | apply Kd.RqD)); exact (Kd.R_mono (Kd.R_far (p := ⟨gb793, 1, none⟩) (Kd.R_far (p := ⟨gb793, 0, none⟩) (Kd.R_types HO792.out BK793.out (by decide)) (fun _ hk => hk.2) (.int .i64 t789)) (fun _ hk => hk.2) (.slice Ao29 t790.length co29)) (fun _ h_ => h_.1))))) (bQZ (by repeat (first | (with_reducible first | exact HB.out | apply bQA | apply bQN | apply bQ1 | refine bQS ?_ GE777.out | refine bQS ?_ GE788.out | refine bQS ?_ GE793.out) | exact HB.out)))); have n4_ := Aq.mk (kQB (g := gb777) (o := .cells #[.int .i64 a0_0, .slice A0_1 l0_1.length c0_1] 24 (0, 0)) (by (with_reducible repeat (first | refine kQN ?_ _ | refine kQD ?_ | refine kQA ?_ _)); refine kQR ?_ NB777_793.out _; (with_reducible repeat (first | refine kQN ?_ _ | refine kQD ?_ | refine kQA ?_ _)); refine kQR ?_ NB777_793.out _; (with_reducible repeat (first | refine kQN ?_ _ | refine kQD ?_ | refine kQA ?_ _)); exact BK777.out) hb); have n5_ := Aq.mk (kQB (g := gb788) (o := .cells #[.int .i64 t783, .slice Ao22 t784.length co22] 26 (0, 0)) (by (with_reducible repeat (first | refine kQN ?_ _ | refine kQD ?_ | refine kQA ?_ _)); refine kQR ?_ NB788_793.out _; (with_reducible repeat (first | refine kQN ?_ _ | refine kQD ?_ | refine kQA ?_ _)); refine kQR ?_ NB788_793.out _; (with_reducible repeat (first | refine kQN ?_ _ | refine kQD ?_ | refine kQA ?_ _)); exact BK788.out) hb); have n6_ := Aq.mk (kQB (g := gb793) (o := .cells #[.int .i64 t789, .slice Ao29 t790.length co29] 26 (0, 0)) (by (with_reducible repeat (first | refine kQN ?_ _ | refine kQD ?_ | refine kQA ?_ _)); refine kQP (cs := #[.int .i64 t789, .slice none 0 0]) ?_ 1 _ rfl; (with_reducible repeat (first | refine kQN ?_ _ | refine kQD ?_ | refine kQA ?_ _)); refine kQP (cs := #[.int .i64 0, .slice none 0 0]) ?_ 0 _ rfl; (with_reducible repeat (first | refine kQN ?_ _ | refine kQD ?_ | refine kQA ?_ _)); exact BK793.out) hb); have n7_ := Aq.mk (bQT (by repeat (first | (with_reducible first | exact HB.out | apply bQA | apply bQN | apply bQ1 | refine bQS ?_ GE777.out | refine bQS ?_ GE788.out | refine bQS ?_ GE793.out) | exact HB.out)) hb); clear HO782; clear HO786; clear HO792; clear BK777; clear BK788; clear BK793; clear HB; have HO782 := n0_; have HO786 := n1_; have HO792 := n2_; have HO797 := n3_; have BK777 := n4_; have BK788 := n5_; have BK793 := n6_; have HB := n7_; clear n0_ n1_ n2_ n3_ n4_ n5_ n6_ n7_; (try clear hb); (try clear hb2); (try clear hk); (try clear hi); (try clear ho0)) | ((with_reducible refine gQd (N := 7) rfl ?_); refine xQe ?hg (N := 7) ?hd (cs := #[.int .i64 0, .slice none 0 0]) (t := 26) ?hr ?_; (case hd => rfl); (case hg => rfl); (case hr => first | (go_simp; done) | (go_simp; rfl)); intro gb799 hg w31 hbox hb; have n0_ := Aq.mk (Kd.R_below (by (with_reducible repeat (first | apply Kd.RqA | apply Kd.RqN | apply Kd.RqD)); exact HO782.out) hb); have n1_ := Aq.mk (Kd.R_below (by (with_reducible repeat (first | apply Kd.RqA | apply Kd.RqN | apply Kd.RqD)); exact HO786.out) hb); have n2_ := Aq.mk (Kd.R_below (by (with_reducible repeat (first | apply Kd.RqA | apply Kd.RqN | apply Kd.RqD)); exact HO792.out) hb); have n3_ := Aq.mk (Kd.R_below (by (with_reducible repeat (first | apply Kd.RqA | apply Kd.RqN | apply Kd.RqD)); exact HO797.out) hb); have n4_ := Aq.mk (kQB (g := gb777) (o := .cells #[.int .i64 a0_0, .slice A0_1 l0_1.length c0_1] 24 (0, 0)) (by (with_reducible repeat (first | refine kQN ?_ _ | refine kQD ?_ | refine kQA ?_ _)); exact BK777.out) hb); have n5_ := Aq.mk (kQB (g := gb788) (o := .cells #[.int .i64 t783, .slice Ao22 t784.length co22] 26 (0, 0)) (by (with_reducible repeat (first | refine kQN ?_ _ | refine kQD ?_ | refine kQA ?_ _)); exact BK788.out) hb); have n6_ := Aq.mk (kQB (g := gb793) (o := .cells #[.int .i64 t789, .slice Ao29 t790.length co29] 26 (0, 0)) (by (with_reducible repeat (first | refine kQN ?_ _ | refine kQD ?_ | refine kQA ?_ _)); exact BK793.out) hb); have n7_ := Aq.mk (bQT (by repeat (first | (with_reducible first | exact HB.out | apply bQA | apply bQN | apply bQ1 | refine bQS ?_ GE777.out | refine bQS ?_ GE788.out | refine bQS ?_ GE793.out) | exact HB.out)) hb); have n8_ := Aq.mk (hbox); have n9_ := Aq.mk ((by rw [hg]; exact (bQZ (by repeat (first | (with_reducible first | exact HB.out | apply bQA | apply bQN | apply bQ1 | refine bQS ?_ GE777.out | refine bQS ?_ GE788.out | refine bQS ?_ GE793.out) | exact HB.out))) : w.heap.size ≤ gb799)); have n10_ := Aq.mk ((by rw [hg]; exact (bQZ (by repeat (first | (with_reducible first | exact HB.out | apply bQA | apply bQN | apply bQ1 | refine bQS ?_ GE777.out | refine bQS ?_ GE788.out | refine bQS ?_ GE793.out) | exact HB.out))) : w.heap.size ≤ gb799)); have n11_ := Aq.mk ((by rw [hg]; exact Nat.ne_of_lt (blk_lt (g := gb777) (o := .cells #[.int .i64 a0_0, .slice A0_1 l0_1.length c0_1] 24 (0, 0)) (by (with_reducible repeat (first | refine kQN ?_ _ | refine kQD ?_ | refine kQA ?_ _)); exact BK777.out)) : gb777 ≠ gb799)); have n12_ := Aq.mk ((by rw [hg]; exact Nat.ne_of_gt (blk_lt (g := gb777) (o := .cells #[.int .i64 a0_0, .slice A0_1 l0_1.length c0_1] 24 (0, 0)) (by (with_reducible repeat (first | refine kQN ?_ _ | refine kQD ?_ | refine kQA ?_ _)); exact BK777.out)) : gb799 ≠ gb777)); have n13_ := Aq.mk ((by rw [hg]; exact Nat.ne_of_lt (blk_lt (g := gb788) (o := .cells #[.int .i64 t783, .slice Ao22 t784.length co22] 26 (0, 0)) (by (with_reducible repeat (first | refine kQN ?_ _ | refine kQD ?_ | refine kQA ?_ _)); exact BK788.out)) : gb788 ≠ gb799)); have n14_ := Aq.mk ((by rw [hg]; exact Nat.ne_of_gt (blk_lt (g := gb788) (o := .cells #[.int .i64 t783, .slice Ao22 t784.length co22] 26 (0, 0)) (by (with_reducible repeat (first | refine kQN ?_ _ | refine kQD ?_ | refine kQA ?_ _)); exact BK788.out)) : gb799 ≠ gb788)); have n15_ := Aq.mk ((by rw [hg]; exact Nat.ne_of_lt (blk_lt (g := gb793) (o := .cells #[.int .i64 t789, .slice Ao29 t790.length co29] 26 (0, 0)) (by (with_reducible repeat (first | refine kQN ?_ _ | refine kQD ?_ | refine kQA ?_ _)); exact BK793.out)) : gb793 ≠ gb799)); have n16_ := Aq.mk ((by rw [hg]; exact Nat.ne_of_gt (blk_lt (g := gb793) (o := .cells #[.int .i64 t789, .slice Ao29 t790.length co29] 26 (0, 0)) (by (with_reducible repeat (first | refine kQN ?_ _ | refine kQD ?_ | refine kQA ?_ _)); exact BK793.out)) : gb799 ≠ gb793)); clear HO782; clear HO786; clear HO792; clear HO797; clear BK777; clear BK788; clear BK793; clear HB; have HO782 := n0_; have HO786 := n1_; have HO792 := n2_; have HO797 := n3_; have BK777 := n4_; have BK788 := n5_; have BK793 := n6_; have HB := n7_; have BK799 := n8_; have GW799 := n9_; have GE799 := n10_; have NB777_799 := n11_; have NB799_777 := n12_; have NB788_799 := n13_; have NB799_788 := n14_; have NB793_799 := n15_; have NB799_793 := n16_; clear n0_ n1_ n2_ n3_ n4_ n5_ n6_ n7_ n8_ n9_ n10_ n11_ n12_ n13_ n14_ n15_ n16_; clear hb hbox hg; have hnb32 := NB799_777.out; have hnc32 := NB777_799.out; have hnb33 := NB799_788.out; have hnc33 := NB788_799.out; have hnb34 := NB799_793.out; have hnc34 := NB793_799.out; have hcz35_0 : w31.cell? ⟨gb799, 0, none⟩ = some (.int .i64 0) := (kQC BK799.out 0).trans rfl; have hcz35_1 : w31.cell? ⟨gb799, 1, none⟩ = some (.slice none 0 0) := (kQC BK799.out 1).trans rfl; have hfz35_0 := kQF BK799.out 0; have hfz35_1 := kQF BK799.out 1; obtain ⟨Ao36, co36, eo36⟩ := Kd.R_slice HO797.out; subst eo36))
  (try simp only [Act.put, qSa, qSb, qSc])
  go_cut [40] (fun v40 wc => ∃ (kq : Nat) (x40_10 : Bool), v40 = .bool x40_10 ∧ Aq (laws_FnExactDualSpace.j0 kq t787 t798 x40_10 a0_0 l0_1 t783 t784 t789 t790 t794 t795 = some r) ∧ Aq (kq ≤ k) ∧ Aq (Kd.R (Kd.int .i64) 2 wc w.heap.size (fun k_ => some k_ ≠ ((.slice Ao29 t790.length co29) : Value).ownBlock ∧ some k_ ≠ ((.slice Ao36 t795.length co36) : Value).ownBlock) (.slice Ao22 t784.length co22) t784) ∧ Aq (Kd.R (Kd.int .i64) 2 wc w.heap.size (fun k_ => some k_ ≠ ((.slice Ao22 t784.length co22) : Value).ownBlock ∧ some k_ ≠ ((.slice Ao36 t795.length co36) : Value).ownBlock) (.slice Ao29 t790.length co29) t790) ∧ Aq (Kd.R (Kd.int .i64) 2 wc w.heap.size (fun k_ => some k_ ≠ ((.slice Ao22 t784.length co22) : Value).ownBlock ∧ some k_ ≠ ((.slice Ao29 t790.length co29) : Value).ownBlock) (.slice Ao36 t795.length co36) t795) ∧ Aq (wc.heap[gb777]? = some (.cells #[.int .i64 a0_0, (.slice A0_1 l0_1.length c0_1)] 24 (0, 0))) ∧ Aq (wc.heap[gb788]? = some (.cells #[.int .i64 t783, (.slice Ao22 t784.length co22)] 26 (0, 0))) ∧ Aq (wc.heap[gb793]? = some (.cells #[.int .i64 t789, (.slice Ao29 t790.length co29)] 26 (0, 0))) ∧ Aq (wc.heap[gb799]? = some (.cells #[.int .i64 t794, (.slice Ao36 t795.length co36)] 26 (0, 0))) ∧ Aq (Below w.heap.size w wc))
  case first =>
   have H := HC11.out
   clear HC11
   replace H := Option.bind_eq_some_iff.mp H
   obtain ⟨t800, A370, H⟩ := H
   replace H : (if t800 = true then (laws_FnExactDualSpace.j0 k t787 t798 (t798 != t787) a0_0 l0_1 t783 t784 t789 t790 t794 t795) else (laws_FnExactDualSpace.j0 k t787 t798 true a0_0 l0_1 t783 t784 t789 t790 t794 t795)) = some r := H
   have A37 := Aq.mk A370
   clear A370
   by_cases c38 : t800 = true
   ·subst c38
    have H1 : (laws_FnExactDualSpace.j0 k t787 t798 (t798 != t787) a0_0 l0_1 t783 t784 t789 t790 t794 t795) = some r := by rw [if_pos rfl] at H; exact H
    clear H
    have H := H1
    clear H1
    have H' := Aq.mk H
    clear H
    have hnb39 := NB799_777.out
    have hnc39 := NB777_799.out
    have hnb40 := NB799_788.out
    have hnc40 := NB788_799.out
    have hnb41 := NB799_793.out
    have hnc41 := NB793_799.out
    have hcz42_0 : w31.cell? ⟨gb799, 0, none⟩ = some (.int .i64 0) := (kQC BK799.out 0).trans rfl
    have hcz42_1 : w31.cell? ⟨gb799, 1, none⟩ = some (.slice none 0 0) := (kQC BK799.out 1).trans rfl
    have hfz42_0 := kQF BK799.out 0
    have hfz42_1 := kQF BK799.out 1
    have hnb43 := NB788_777.out
    have hnc43 := NB777_788.out
    have hnb44 := NB788_793.out
    have hnc44 := NB793_788.out
    have hcz45_0 : w31.cell? ⟨gb788, 0, none⟩ = some (.int .i64 t783) := (kQC BK788.out 0).trans rfl
    have hcz45_1 : w31.cell? ⟨gb788, 1, none⟩ = some (.slice Ao22 t784.length co22) := (kQC BK788.out 1).trans rfl
    have hfz45_0 := kQF BK788.out 0
    have hfz45_1 := kQF BK788.out 1
    go_wp2_with (first | ((with_reducible refine gQc (f := 19) rfl ?_); refine goesL_ (some 34) rfl rfl Try.func19 (by kernel_rfl) rfl #[.agg #[.int .i64 t794, .slice Ao36 t795.length co36], .agg #[.int .i64 t783, .slice Ao22 t784.length co22]] rfl (by (try simp only [List.map_toArray, List.map_cons, List.map_nil]); first | done | rfl | (simp only [List.length_drop, List.length_take]; rfl)) ?_; (with_reducible refine (laws_eqMatrix.calls k t794 _ _ t795 t783 _ _ t784 true _ ?side1 ?side2 ?side3 ?side4 A37.out).mono ?_); (case side1 => refine (Kd.R_reads' (e := 2) (base := w.heap.size) (ok := fun k_ => (((True ∧ some k_ ≠ (.slice Ao17 t780.length co17 : Value).ownBlock) ∧ some k_ ≠ (.slice Ao22 t784.length co22 : Value).ownBlock) ∧ some k_ ≠ (.slice Ao29 t790.length co29 : Value).ownBlock)) (n := t795.length) (c := co36) ?_).2.2; exact (by (with_reducible repeat (first | apply Kd.RqA | apply Kd.RqN | apply Kd.RqD)); exact (Kd.R_mono (Kd.R_far (p := ⟨gb799, 1, none⟩) (Kd.R_far (p := ⟨gb799, 0, none⟩) (Kd.R_types HO797.out BK799.out (by decide)) (fun _ hk => hk.2) (.int .i64 t794)) (fun _ hk => hk.2) (.slice Ao36 t795.length co36)) (fun _ h_ => h_.1)))); (case side2 => exact (Kd.R_reads' HO797.out).2.1); (case side3 => refine (Kd.R_reads' (e := 2) (base := w.heap.size) (ok := fun k_ => (((True ∧ some k_ ≠ (.slice Ao17 t780.length co17 : Value).ownBlock) ∧ some k_ ≠ (.slice Ao29 t790.length co29 : Value).ownBlock) ∧ some k_ ≠ (.slice Ao36 t795.length co36 : Value).ownBlock)) (n := t784.length) (c := co22) ?_).2.2; exact (by (with_reducible repeat (first | apply Kd.RqA | apply Kd.RqN | apply Kd.RqD)); exact (Kd.R_mono (Kd.R_far (p := ⟨gb799, 1, none⟩) (Kd.R_far (p := ⟨gb799, 0, none⟩) (Kd.R_types HO786.out BK799.out (by decide)) (fun _ hk => hk.2) (.int .i64 t794)) (fun _ hk => hk.2) (.slice Ao36 t795.length co36)) (fun _ h_ => h_.1)))); (case side4 => exact (Kd.R_reads' HO786.out).2.1); rintro e w46 ⟨rfl, hb⟩; refine ⟨_, rfl, ?_⟩; have n0_ := Aq.mk (Kd.R_below (by (with_reducible repeat (first | apply Kd.RqA | apply Kd.RqN | apply Kd.RqD)); exact (Kd.R_mono (Kd.R_far (p := ⟨gb799, 1, none⟩) (Kd.R_far (p := ⟨gb799, 0, none⟩) (Kd.R_types HO782.out BK799.out (by decide)) (fun _ hk => hk.2) (.int .i64 t794)) (fun _ hk => hk.2) (.slice Ao36 t795.length co36)) (fun _ h_ => h_.1))) hb); have n1_ := Aq.mk (Kd.R_below (by (with_reducible repeat (first | apply Kd.RqA | apply Kd.RqN | apply Kd.RqD)); exact (Kd.R_mono (Kd.R_far (p := ⟨gb799, 1, none⟩) (Kd.R_far (p := ⟨gb799, 0, none⟩) (Kd.R_types HO786.out BK799.out (by decide)) (fun _ hk => hk.2) (.int .i64 t794)) (fun _ hk => hk.2) (.slice Ao36 t795.length co36)) (fun _ h_ => h_.1))) hb); have n2_ := Aq.mk (Kd.R_below (by (with_reducible repeat (first | apply Kd.RqA | apply Kd.RqN | apply Kd.RqD)); exact (Kd.R_mono (Kd.R_far (p := ⟨gb799, 1, none⟩) (Kd.R_far (p := ⟨gb799, 0, none⟩) (Kd.R_types HO792.out BK799.out (by decide)) (fun _ hk => hk.2) (.int .i64 t794)) (fun _ hk => hk.2) (.slice Ao36 t795.length co36)) (fun _ h_ => h_.1))) hb); have n3_ := Aq.mk (Kd.R_below (by (with_reducible repeat (first | apply Kd.RqA | apply Kd.RqN | apply Kd.RqD)); exact (Kd.R_mono (Kd.R_far (p := ⟨gb799, 1, none⟩) (Kd.R_far (p := ⟨gb799, 0, none⟩) (Kd.R_types HO797.out BK799.out (by decide)) (fun _ hk => hk.2) (.int .i64 t794)) (fun _ hk => hk.2) (.slice Ao36 t795.length co36)) (fun _ h_ => h_.1))) hb); have n4_ := Aq.mk (kQB (g := gb777) (o := .cells #[.int .i64 a0_0, .slice A0_1 l0_1.length c0_1] 24 (0, 0)) (by (with_reducible repeat (first | refine kQN ?_ _ | refine kQD ?_ | refine kQA ?_ _)); refine kQR ?_ NB777_799.out _; (with_reducible repeat (first | refine kQN ?_ _ | refine kQD ?_ | refine kQA ?_ _)); refine kQR ?_ NB777_799.out _; (with_reducible repeat (first | refine kQN ?_ _ | refine kQD ?_ | refine kQA ?_ _)); exact BK777.out) hb); have n5_ := Aq.mk (kQB (g := gb788) (o := .cells #[.int .i64 t783, .slice Ao22 t784.length co22] 26 (0, 0)) (by (with_reducible repeat (first | refine kQN ?_ _ | refine kQD ?_ | refine kQA ?_ _)); refine kQR ?_ NB788_799.out _; (with_reducible repeat (first | refine kQN ?_ _ | refine kQD ?_ | refine kQA ?_ _)); refine kQR ?_ NB788_799.out _; (with_reducible repeat (first | refine kQN ?_ _ | refine kQD ?_ | refine kQA ?_ _)); exact BK788.out) hb); have n6_ := Aq.mk (kQB (g := gb793) (o := .cells #[.int .i64 t789, .slice Ao29 t790.length co29] 26 (0, 0)) (by (with_reducible repeat (first | refine kQN ?_ _ | refine kQD ?_ | refine kQA ?_ _)); refine kQR ?_ NB793_799.out _; (with_reducible repeat (first | refine kQN ?_ _ | refine kQD ?_ | refine kQA ?_ _)); refine kQR ?_ NB793_799.out _; (with_reducible repeat (first | refine kQN ?_ _ | refine kQD ?_ | refine kQA ?_ _)); exact BK793.out) hb); have n7_ := Aq.mk (kQB (g := gb799) (o := .cells #[.int .i64 t794, .slice Ao36 t795.length co36] 26 (0, 0)) (by (with_reducible repeat (first | refine kQN ?_ _ | refine kQD ?_ | refine kQA ?_ _)); refine kQP (cs := #[.int .i64 t794, .slice none 0 0]) ?_ 1 _ rfl; (with_reducible repeat (first | refine kQN ?_ _ | refine kQD ?_ | refine kQA ?_ _)); refine kQP (cs := #[.int .i64 0, .slice none 0 0]) ?_ 0 _ rfl; (with_reducible repeat (first | refine kQN ?_ _ | refine kQD ?_ | refine kQA ?_ _)); exact BK799.out) hb); have n8_ := Aq.mk (bQT (by repeat (first | (with_reducible first | exact HB.out | apply bQA | apply bQN | apply bQ1 | refine bQS ?_ GE777.out | refine bQS ?_ GE788.out | refine bQS ?_ GE793.out | refine bQS ?_ GE799.out) | exact HB.out)) hb); clear HO782; clear HO786; clear HO792; clear HO797; clear BK777; clear BK788; clear BK793; clear BK799; clear HB; have HO782 := n0_; have HO786 := n1_; have HO792 := n2_; have HO797 := n3_; have BK777 := n4_; have BK788 := n5_; have BK793 := n6_; have BK799 := n7_; have HB := n8_; clear n0_ n1_ n2_ n3_ n4_ n5_ n6_ n7_ n8_; (try clear hb); (try clear hb2); (try clear hk); (try clear hi)))
    go_meet
    case rel => exact ⟨_, ((t798 != t787)), (by first | rfl | (simp; done) | (simp [*]; done)), H', ⟨by first | omega | exact Nat.le_refl _⟩, ⟨by (with_reducible repeat (first | apply Kd.RqA | apply Kd.RqN | apply Kd.RqD)); exact Kd.R_mono HO786.out (fun _ hk => ⟨hk.1.2, hk.2⟩)⟩, ⟨by (with_reducible repeat (first | apply Kd.RqA | apply Kd.RqN | apply Kd.RqD)); exact Kd.R_mono HO792.out (fun _ hk => ⟨hk.1.2, hk.2⟩)⟩, ⟨by (with_reducible repeat (first | apply Kd.RqA | apply Kd.RqN | apply Kd.RqD)); exact Kd.R_mono HO797.out (fun _ hk => ⟨hk.1.2, hk.2⟩)⟩, ⟨by (with_reducible repeat (first | refine kQN ?_ _ | refine kQD ?_ | refine kQA ?_ _)); exact BK777.out⟩, ⟨by (with_reducible repeat (first | refine kQN ?_ _ | refine kQD ?_ | refine kQA ?_ _)); exact BK788.out⟩, ⟨by (with_reducible repeat (first | refine kQN ?_ _ | refine kQD ?_ | refine kQA ?_ _)); exact BK793.out⟩, ⟨by (with_reducible repeat (first | refine kQN ?_ _ | refine kQD ?_ | refine kQA ?_ _)); exact BK799.out⟩, ⟨by repeat (first | (with_reducible first | exact HB.out | apply bQA | apply bQN | apply bQ1 | refine bQS ?_ GE777.out | refine bQS ?_ GE788.out | refine bQS ?_ GE793.out | refine bQS ?_ GE799.out) | exact HB.out)⟩⟩
   ·replace c38 := Bool.eq_false_iff.mpr c38
    subst c38
    have H1 : (laws_FnExactDualSpace.j0 k t787 t798 true a0_0 l0_1 t783 t784 t789 t790 t794 t795) = some r := by rw [if_neg (show ¬ (false = true) by decide)] at H; exact H
    clear H
    have H := H1
    clear H1
    have H' := Aq.mk H
    clear H
    have hnb47 := NB799_777.out
    have hnc47 := NB777_799.out
    have hnb48 := NB799_788.out
    have hnc48 := NB788_799.out
    have hnb49 := NB799_793.out
    have hnc49 := NB793_799.out
    have hcz50_0 : w31.cell? ⟨gb799, 0, none⟩ = some (.int .i64 0) := (kQC BK799.out 0).trans rfl
    have hcz50_1 : w31.cell? ⟨gb799, 1, none⟩ = some (.slice none 0 0) := (kQC BK799.out 1).trans rfl
    have hfz50_0 := kQF BK799.out 0
    have hfz50_1 := kQF BK799.out 1
    have hnb51 := NB788_777.out
    have hnc51 := NB777_788.out
    have hnb52 := NB788_793.out
    have hnc52 := NB793_788.out
    have hcz53_0 : w31.cell? ⟨gb788, 0, none⟩ = some (.int .i64 t783) := (kQC BK788.out 0).trans rfl
    have hcz53_1 : w31.cell? ⟨gb788, 1, none⟩ = some (.slice Ao22 t784.length co22) := (kQC BK788.out 1).trans rfl
    have hfz53_0 := kQF BK788.out 0
    have hfz53_1 := kQF BK788.out 1
    go_wp2_with (first | ((with_reducible refine gQc (f := 19) rfl ?_); refine goesL_ (some 34) rfl rfl Try.func19 (by kernel_rfl) rfl #[.agg #[.int .i64 t794, .slice Ao36 t795.length co36], .agg #[.int .i64 t783, .slice Ao22 t784.length co22]] rfl (by (try simp only [List.map_toArray, List.map_cons, List.map_nil]); first | done | rfl | (simp only [List.length_drop, List.length_take]; rfl)) ?_; (with_reducible refine (laws_eqMatrix.calls k t794 _ _ t795 t783 _ _ t784 false _ ?side1 ?side2 ?side3 ?side4 A37.out).mono ?_); (case side1 => refine (Kd.R_reads' (e := 2) (base := w.heap.size) (ok := fun k_ => (((True ∧ some k_ ≠ (.slice Ao17 t780.length co17 : Value).ownBlock) ∧ some k_ ≠ (.slice Ao22 t784.length co22 : Value).ownBlock) ∧ some k_ ≠ (.slice Ao29 t790.length co29 : Value).ownBlock)) (n := t795.length) (c := co36) ?_).2.2; exact (by (with_reducible repeat (first | apply Kd.RqA | apply Kd.RqN | apply Kd.RqD)); exact (Kd.R_mono (Kd.R_far (p := ⟨gb799, 1, none⟩) (Kd.R_far (p := ⟨gb799, 0, none⟩) (Kd.R_types HO797.out BK799.out (by decide)) (fun _ hk => hk.2) (.int .i64 t794)) (fun _ hk => hk.2) (.slice Ao36 t795.length co36)) (fun _ h_ => h_.1)))); (case side2 => exact (Kd.R_reads' HO797.out).2.1); (case side3 => refine (Kd.R_reads' (e := 2) (base := w.heap.size) (ok := fun k_ => (((True ∧ some k_ ≠ (.slice Ao17 t780.length co17 : Value).ownBlock) ∧ some k_ ≠ (.slice Ao29 t790.length co29 : Value).ownBlock) ∧ some k_ ≠ (.slice Ao36 t795.length co36 : Value).ownBlock)) (n := t784.length) (c := co22) ?_).2.2; exact (by (with_reducible repeat (first | apply Kd.RqA | apply Kd.RqN | apply Kd.RqD)); exact (Kd.R_mono (Kd.R_far (p := ⟨gb799, 1, none⟩) (Kd.R_far (p := ⟨gb799, 0, none⟩) (Kd.R_types HO786.out BK799.out (by decide)) (fun _ hk => hk.2) (.int .i64 t794)) (fun _ hk => hk.2) (.slice Ao36 t795.length co36)) (fun _ h_ => h_.1)))); (case side4 => exact (Kd.R_reads' HO786.out).2.1); rintro e w54 ⟨rfl, hb⟩; refine ⟨_, rfl, ?_⟩; have n0_ := Aq.mk (Kd.R_below (by (with_reducible repeat (first | apply Kd.RqA | apply Kd.RqN | apply Kd.RqD)); exact (Kd.R_mono (Kd.R_far (p := ⟨gb799, 1, none⟩) (Kd.R_far (p := ⟨gb799, 0, none⟩) (Kd.R_types HO782.out BK799.out (by decide)) (fun _ hk => hk.2) (.int .i64 t794)) (fun _ hk => hk.2) (.slice Ao36 t795.length co36)) (fun _ h_ => h_.1))) hb); have n1_ := Aq.mk (Kd.R_below (by (with_reducible repeat (first | apply Kd.RqA | apply Kd.RqN | apply Kd.RqD)); exact (Kd.R_mono (Kd.R_far (p := ⟨gb799, 1, none⟩) (Kd.R_far (p := ⟨gb799, 0, none⟩) (Kd.R_types HO786.out BK799.out (by decide)) (fun _ hk => hk.2) (.int .i64 t794)) (fun _ hk => hk.2) (.slice Ao36 t795.length co36)) (fun _ h_ => h_.1))) hb); have n2_ := Aq.mk (Kd.R_below (by (with_reducible repeat (first | apply Kd.RqA | apply Kd.RqN | apply Kd.RqD)); exact (Kd.R_mono (Kd.R_far (p := ⟨gb799, 1, none⟩) (Kd.R_far (p := ⟨gb799, 0, none⟩) (Kd.R_types HO792.out BK799.out (by decide)) (fun _ hk => hk.2) (.int .i64 t794)) (fun _ hk => hk.2) (.slice Ao36 t795.length co36)) (fun _ h_ => h_.1))) hb); have n3_ := Aq.mk (Kd.R_below (by (with_reducible repeat (first | apply Kd.RqA | apply Kd.RqN | apply Kd.RqD)); exact (Kd.R_mono (Kd.R_far (p := ⟨gb799, 1, none⟩) (Kd.R_far (p := ⟨gb799, 0, none⟩) (Kd.R_types HO797.out BK799.out (by decide)) (fun _ hk => hk.2) (.int .i64 t794)) (fun _ hk => hk.2) (.slice Ao36 t795.length co36)) (fun _ h_ => h_.1))) hb); have n4_ := Aq.mk (kQB (g := gb777) (o := .cells #[.int .i64 a0_0, .slice A0_1 l0_1.length c0_1] 24 (0, 0)) (by (with_reducible repeat (first | refine kQN ?_ _ | refine kQD ?_ | refine kQA ?_ _)); refine kQR ?_ NB777_799.out _; (with_reducible repeat (first | refine kQN ?_ _ | refine kQD ?_ | refine kQA ?_ _)); refine kQR ?_ NB777_799.out _; (with_reducible repeat (first | refine kQN ?_ _ | refine kQD ?_ | refine kQA ?_ _)); exact BK777.out) hb); have n5_ := Aq.mk (kQB (g := gb788) (o := .cells #[.int .i64 t783, .slice Ao22 t784.length co22] 26 (0, 0)) (by (with_reducible repeat (first | refine kQN ?_ _ | refine kQD ?_ | refine kQA ?_ _)); refine kQR ?_ NB788_799.out _; (with_reducible repeat (first | refine kQN ?_ _ | refine kQD ?_ | refine kQA ?_ _)); refine kQR ?_ NB788_799.out _; (with_reducible repeat (first | refine kQN ?_ _ | refine kQD ?_ | refine kQA ?_ _)); exact BK788.out) hb); have n6_ := Aq.mk (kQB (g := gb793) (o := .cells #[.int .i64 t789, .slice Ao29 t790.length co29] 26 (0, 0)) (by (with_reducible repeat (first | refine kQN ?_ _ | refine kQD ?_ | refine kQA ?_ _)); refine kQR ?_ NB793_799.out _; (with_reducible repeat (first | refine kQN ?_ _ | refine kQD ?_ | refine kQA ?_ _)); refine kQR ?_ NB793_799.out _; (with_reducible repeat (first | refine kQN ?_ _ | refine kQD ?_ | refine kQA ?_ _)); exact BK793.out) hb); have n7_ := Aq.mk (kQB (g := gb799) (o := .cells #[.int .i64 t794, .slice Ao36 t795.length co36] 26 (0, 0)) (by (with_reducible repeat (first | refine kQN ?_ _ | refine kQD ?_ | refine kQA ?_ _)); refine kQP (cs := #[.int .i64 t794, .slice none 0 0]) ?_ 1 _ rfl; (with_reducible repeat (first | refine kQN ?_ _ | refine kQD ?_ | refine kQA ?_ _)); refine kQP (cs := #[.int .i64 0, .slice none 0 0]) ?_ 0 _ rfl; (with_reducible repeat (first | refine kQN ?_ _ | refine kQD ?_ | refine kQA ?_ _)); exact BK799.out) hb); have n8_ := Aq.mk (bQT (by repeat (first | (with_reducible first | exact HB.out | apply bQA | apply bQN | apply bQ1 | refine bQS ?_ GE777.out | refine bQS ?_ GE788.out | refine bQS ?_ GE793.out | refine bQS ?_ GE799.out) | exact HB.out)) hb); clear HO782; clear HO786; clear HO792; clear HO797; clear BK777; clear BK788; clear BK793; clear BK799; clear HB; have HO782 := n0_; have HO786 := n1_; have HO792 := n2_; have HO797 := n3_; have BK777 := n4_; have BK788 := n5_; have BK793 := n6_; have BK799 := n7_; have HB := n8_; clear n0_ n1_ n2_ n3_ n4_ n5_ n6_ n7_ n8_; (try clear hb); (try clear hb2); (try clear hk); (try clear hi)))
    go_meet
    case rel => exact ⟨_, (true), (by first | rfl | (simp; done) | (simp [*]; done)), H', ⟨by first | omega | exact Nat.le_refl _⟩, ⟨by (with_reducible repeat (first | apply Kd.RqA | apply Kd.RqN | apply Kd.RqD)); exact Kd.R_mono HO786.out (fun _ hk => ⟨hk.1.2, hk.2⟩)⟩, ⟨by (with_reducible repeat (first | apply Kd.RqA | apply Kd.RqN | apply Kd.RqD)); exact Kd.R_mono HO792.out (fun _ hk => ⟨hk.1.2, hk.2⟩)⟩, ⟨by (with_reducible repeat (first | apply Kd.RqA | apply Kd.RqN | apply Kd.RqD)); exact Kd.R_mono HO797.out (fun _ hk => ⟨hk.1.2, hk.2⟩)⟩, ⟨by (with_reducible repeat (first | refine kQN ?_ _ | refine kQD ?_ | refine kQA ?_ _)); exact BK777.out⟩, ⟨by (with_reducible repeat (first | refine kQN ?_ _ | refine kQD ?_ | refine kQA ?_ _)); exact BK788.out⟩, ⟨by (with_reducible repeat (first | refine kQN ?_ _ | refine kQD ?_ | refine kQA ?_ _)); exact BK793.out⟩, ⟨by (with_reducible repeat (first | refine kQN ?_ _ | refine kQD ?_ | refine kQA ?_ _)); exact BK799.out⟩, ⟨by repeat (first | (with_reducible first | exact HB.out | apply bQA | apply bQN | apply bQ1 | refine bQS ?_ GE777.out | refine bQS ?_ GE788.out | refine bQS ?_ GE793.out | refine bQS ?_ GE799.out) | exact HB.out)⟩⟩
  case rest =>
   clear HC11
   try clear c1
   try clear c2
   try clear p2
   try clear c3
   try clear c3b0
   try clear c4
   try clear c5
   try clear c9
   try clear c15
   try clear c17
   try clear c19
   try clear c20
   try clear c26
   try clear c27
   try clear c31
   try clear c32
   try clear c33
   try clear c34
   try clear c38
   try clear c39
   try clear c40
   try clear c41
   try clear c43
   try clear c44
   try clear c47
   try clear c48
   try clear c49
   try clear c51
   try clear c52
   try clear hcz13_0
   try clear hcz13_1
   try clear hcz15_0
   try clear hcz15_1
   try clear hcz21_0
   try clear hcz21_1
   try clear hcz23_0
   try clear hcz23_1
   try clear hcz28_0
   try clear hcz28_1
   try clear hcz35_0
   try clear hcz35_1
   try clear hcz42_0
   try clear hcz42_1
   try clear hcz45_0
   try clear hcz45_1
   try clear hcz50_0
   try clear hcz50_1
   try clear hcz53_0
   try clear hcz53_1
   try clear hcz5_0
   try clear hcz5_1
   try clear hfz13_0
   try clear hfz13_1
   try clear hfz15_0
   try clear hfz15_1
   try clear hfz21_0
   try clear hfz21_1
   try clear hfz23_0
   try clear hfz23_1
   try clear hfz28_0
   try clear hfz28_1
   try clear hfz35_0
   try clear hfz35_1
   try clear hfz42_0
   try clear hfz42_1
   try clear hfz45_0
   try clear hfz45_1
   try clear hfz50_0
   try clear hfz50_1
   try clear hfz53_0
   try clear hfz53_1
   try clear hfz5_0
   try clear hfz5_1
   obtain ⟨kq, x40_10, rfl, HA, HJ10, HO_789001, HO_794001, HO_800001, BK777, BK788, BK793, BK799, HB⟩ := hcut
   cases kq with
   | zero => exact absurd HA.out (by simp [laws_FnExactDualSpace.j0])
   | succ kj10 =>
    have H := HA.out
    clear HA
    simp only [laws_FnExactDualSpace.j0] at H
    by_cases c55 : x40_10 = true
    ·subst c55
     have H1 : (some false) = some r := by rw [if_pos rfl] at H; exact H
     clear H
     have H := H1
     clear H1
     obtain rfl := Option.some.inj H
     go_wp2
     go_ret
     exact ⟨by first | rfl | (simp [errW_none, errW_some] <;> rfl) | (simp [*, errW_none, errW_some] <;> rfl), by repeat (first | (with_reducible first | exact HB.out | apply bQA | apply bQN | apply bQ1 | refine bQS ?_ GE777.out | refine bQS ?_ GE788.out | refine bQS ?_ GE793.out | refine bQS ?_ GE799.out) | exact HB.out)⟩
    ·replace c55 := Bool.eq_false_iff.mpr c55
     subst c55
     have H1 : ((laws_toMatrix.f kj10 a0_0 l0_1).bind fun bt801 => ((laws_eqMatrix.f kj10 t789 t790 bt801.1 bt801.2).bind fun t805 => (if t805 = true then ((laws_markMatrix.f kj10 t789 t790 1).bind fun bt806 => (if bt806.1 < 0 then (laws_FnExactDualSpace.j1 kj10 t787 true a0_0 l0_1 t783 t784 t794 t795) else ((laws_eqMatrix.f kj10 t794 t795 t783 t784).bind fun t808 => (if t808 = true then (laws_FnExactDualSpace.j1 kj10 t787 (t798 != t787) a0_0 l0_1 t783 t784 t794 t795) else (laws_FnExactDualSpace.j1 kj10 t787 true a0_0 l0_1 t783 t784 t794 t795))))) else (some false)))) = some r := by rw [if_neg (show ¬ (false = true) by decide)] at H; exact H
     clear H
     have H := H1
     clear H1
     replace H := Option.bind_eq_some_iff.mp H
     obtain ⟨⟨t801, t802⟩, A560, H⟩ := H
     replace H : ((laws_eqMatrix.f kj10 t789 t790 t801 t802).bind fun t805 => (if t805 = true then ((laws_markMatrix.f kj10 t789 t790 1).bind fun bt806 => (if bt806.1 < 0 then (laws_FnExactDualSpace.j1 kj10 t787 true a0_0 l0_1 t783 t784 t794 t795) else ((laws_eqMatrix.f kj10 t794 t795 t783 t784).bind fun t808 => (if t808 = true then (laws_FnExactDualSpace.j1 kj10 t787 (t798 != t787) a0_0 l0_1 t783 t784 t794 t795) else (laws_FnExactDualSpace.j1 kj10 t787 true a0_0 l0_1 t783 t784 t794 t795))))) else (some false))) = some r := H
     have A56 := Aq.mk A560
     clear A560
     replace H := Option.bind_eq_some_iff.mp H
     obtain ⟨t805, A570, H⟩ := H
     replace H : (if t805 = true then ((laws_markMatrix.f kj10 t789 t790 1).bind fun bt806 => (if bt806.1 < 0 then (laws_FnExactDualSpace.j1 kj10 t787 true a0_0 l0_1 t783 t784 t794 t795) else ((laws_eqMatrix.f kj10 t794 t795 t783 t784).bind fun t808 => (if t808 = true then (laws_FnExactDualSpace.j1 kj10 t787 (t798 != t787) a0_0 l0_1 t783 t784 t794 t795) else (laws_FnExactDualSpace.j1 kj10 t787 true a0_0 l0_1 t783 t784 t794 t795))))) else (some false)) = some r := H
     have A57 := Aq.mk A570
     clear A570
     by_cases c58 : t805 = true
     ·subst c58
      have H1 : ((laws_markMatrix.f kj10 t789 t790 1).bind fun bt806 => (if bt806.1 < 0 then (laws_FnExactDualSpace.j1 kj10 t787 true a0_0 l0_1 t783 t784 t794 t795) else ((laws_eqMatrix.f kj10 t794 t795 t783 t784).bind fun t808 => (if t808 = true then (laws_FnExactDualSpace.j1 kj10 t787 (t798 != t787) a0_0 l0_1 t783 t784 t794 t795) else (laws_FnExactDualSpace.j1 kj10 t787 true a0_0 l0_1 t783 t784 t794 t795))))) = some r := by rw [if_pos rfl] at H; exact H
      clear H
      have H := H1
      clear H1
      replace H := Option.bind_eq_some_iff.mp H
      obtain ⟨⟨t806, t807⟩, A590, H⟩ := H
      replace H : (if t806 < 0 then (laws_FnExactDualSpace.j1 kj10 t787 true a0_0 l0_1 t783 t784 t794 t795) else ((laws_eqMatrix.f kj10 t794 t795 t783 t784).bind fun t808 => (if t808 = true then (laws_FnExactDualSpace.j1 kj10 t787 (t798 != t787) a0_0 l0_1 t783 t784 t794 t795) else (laws_FnExactDualSpace.j1 kj10 t787 true a0_0 l0_1 t783 t784 t794 t795)))) = some r := H
      have A59 := Aq.mk A590
      clear A590
      have HC60 := Aq.mk H
      clear H
      try go_wp2
      have n0_ := Aq.mk (Kd.RqD HO_789001.out)
      have n1_ := Aq.mk (Kd.RqD HO_794001.out)
      have n2_ := Aq.mk (Kd.RqD HO_800001.out)
      have n3_ := Aq.mk (kQD BK777.out)
      have n4_ := Aq.mk (kQD BK788.out)
      have n5_ := Aq.mk (kQD BK793.out)
      have n6_ := Aq.mk (kQD BK799.out)
      have n7_ := Aq.mk (bQ1 HB.out)
      clear HO_789001
      clear HO_794001
      clear HO_800001
      clear BK777
      clear BK788
      clear BK793
      clear BK799
      clear HB
      have HO_789001 := n0_
      have HO_794001 := n1_
      have HO_800001 := n2_
      have BK777 := n3_
      have BK788 := n4_
      have BK793 := n5_
      have BK799 := n6_
      have HB := n7_
      clear n0_ n1_ n2_ n3_ n4_ n5_ n6_ n7_
      refine start_ (n := 5) (S := fun w' => w'.cell? ⟨gb793, 0, none⟩ = some (.int .i64 t789) ∧ w'.cell? ⟨gb793, 1, none⟩ = some (.slice Ao29 t790.length co29) ∧ w'.cell? ⟨gb777, 0, none⟩ = some (.int .i64 a0_0) ∧ w'.cell? ⟨gb777, 1, none⟩ = some (.slice A0_1 l0_1.length c0_1)) (ds := []) #[false, false, false, false, false] (by kernel_rfl) rfl rfl ⟨(kQC BK793.out 0).trans rfl, (kQC BK793.out 1).trans rfl, (kQC BK777.out 0).trans rfl, (kQC BK777.out 1).trans rfl⟩ (fun hHeld => ?_)
      generalize wc.drew = w61 at HO_789001 HO_794001 HO_800001 BK777 BK788 BK793 BK799 HB hHeld ⊢
      refine take_ (i := 0) (N := some 41) (v := ?_) (a' := ?_) #[true, false, false, false, false] rfl rfl (by kernel_rfl) (fun _ _ _ h => h) (Or.inl ⟨by rfl, ?_⟩) hHeld ?_ ?_
      rotate_left
      ·rintro w' ⟨s0, s1, s2, s3⟩
       go_simp
       with_reducible rfl
      rotate_left
      ·simp only [Act.put, qSa, qSb, qSc, i64_w, i32_w]
       rfl
      refine take_ (i := 1) (N := some 42) (v := ?_) (a' := ?_) #[true, true, false, false, false] rfl rfl (by kernel_rfl) (fun _ _ _ h => h) (Or.inl ⟨by rfl, ?_⟩) hHeld ?_ ?_
      rotate_left
      ·rintro w' ⟨s0, s1, s2, s3⟩
       go_simp
       with_reducible rfl
      rotate_left
      ·simp only [Act.put, qSa, qSb, qSc, i64_w, i32_w]
       rfl
      refine one_ (i := 2) (N := some 43) #[true, true, true, false, false] rfl rfl (by kernel_rfl) (by decide) (fun K hK => ?_)
      refine goes_ Try.func17 (by kernel_rfl) rfl #[.agg #[.int .i64 a0_0, .slice A0_1 l0_1.length c0_1]] (by rfl) rfl rfl (by (try simp only [List.map_toArray, List.map_cons, List.map_nil]); first | done | rfl | (simp only [List.length_drop, List.length_take]; rfl)) ?_
      with_reducible refine (laws_toMatrix.calls kj10 a0_0 _ _ l0_1 t801 t802 _ ?side1 ?side2 A56.out).mono ?_
      (case side1 => repeat (first | exact (Kd.C_below HR0_1.out HB.out) | (with_reducible refine Kd.CqA ?_ _) | (with_reducible refine Kd.CqN ?_ _) | (with_reducible refine Kd.CqD ?_)))
      (case side2 => exact HC0_1.out)
      rintro e w62 ⟨v803, rfl, ho0, hb⟩
      refine ⟨_, rfl, ?_⟩
      have n0_ := Aq.mk (Kd.R_elder' (by (with_reducible repeat (first | apply Kd.RqA | apply Kd.RqN | apply Kd.RqD)); exact HO_789001.out) (Kd.R_base ho0) hb)
      have n1_ := Aq.mk (Kd.R_elder' (by (with_reducible repeat (first | apply Kd.RqA | apply Kd.RqN | apply Kd.RqD)); exact HO_794001.out) (Kd.R_base ho0) hb)
      have n2_ := Aq.mk (Kd.R_elder' (by (with_reducible repeat (first | apply Kd.RqA | apply Kd.RqN | apply Kd.RqD)); exact HO_800001.out) (Kd.R_base ho0) hb)
      have n3_ := Aq.mk (Kd.R_lower (Kd.R_new' (Kd.R_new' (Kd.R_new' ho0 (Kd.R_lt (by (with_reducible repeat (first | apply Kd.RqA | apply Kd.RqN | apply Kd.RqD)); exact HO_789001.out))) (Kd.R_lt (by (with_reducible repeat (first | apply Kd.RqA | apply Kd.RqN | apply Kd.RqD)); exact HO_794001.out))) (Kd.R_lt (by (with_reducible repeat (first | apply Kd.RqA | apply Kd.RqN | apply Kd.RqD)); exact HO_800001.out))) (bQZ (by repeat (first | (with_reducible first | exact HB.out | apply bQA | apply bQN | apply bQ1 | refine bQS ?_ GE777.out | refine bQS ?_ GE788.out | refine bQS ?_ GE793.out | refine bQS ?_ GE799.out) | exact HB.out))))
      have n4_ := Aq.mk (kQB (g := gb777) (o := .cells #[.int .i64 a0_0, .slice A0_1 l0_1.length c0_1] 24 (0, 0)) (by (with_reducible repeat (first | refine kQN ?_ _ | refine kQD ?_ | refine kQA ?_ _)); exact BK777.out) hb)
      have n5_ := Aq.mk (kQB (g := gb788) (o := .cells #[.int .i64 t783, .slice Ao22 t784.length co22] 26 (0, 0)) (by (with_reducible repeat (first | refine kQN ?_ _ | refine kQD ?_ | refine kQA ?_ _)); exact BK788.out) hb)
      have n6_ := Aq.mk (kQB (g := gb793) (o := .cells #[.int .i64 t789, .slice Ao29 t790.length co29] 26 (0, 0)) (by (with_reducible repeat (first | refine kQN ?_ _ | refine kQD ?_ | refine kQA ?_ _)); exact BK793.out) hb)
      have n7_ := Aq.mk (kQB (g := gb799) (o := .cells #[.int .i64 t794, .slice Ao36 t795.length co36] 26 (0, 0)) (by (with_reducible repeat (first | refine kQN ?_ _ | refine kQD ?_ | refine kQA ?_ _)); exact BK799.out) hb)
      have n8_ := Aq.mk (bQT (by repeat (first | (with_reducible first | exact HB.out | apply bQA | apply bQN | apply bQ1 | refine bQS ?_ GE777.out | refine bQS ?_ GE788.out | refine bQS ?_ GE793.out | refine bQS ?_ GE799.out) | exact HB.out)) hb)
      clear HO_789001
      clear HO_794001
      clear HO_800001
      clear BK777
      clear BK788
      clear BK793
      clear BK799
      clear HB
      have HO_789001 := n0_
      have HO_794001 := n1_
      have HO_800001 := n2_
      have HO804 := n3_
      have BK777 := n4_
      have BK788 := n5_
      have BK793 := n6_
      have BK799 := n7_
      have HB := n8_
      clear n0_ n1_ n2_ n3_ n4_ n5_ n6_ n7_ n8_
      (try clear hb)
      (try clear hb2)
      (try clear hk)
      (try clear hi)
      (try clear ho0)
      obtain ⟨Ao63, co63, eo63⟩ := Kd.R_slice HO804.out
      (first | subst eo63 | (injection eo63 with f1_ f2_ f3_; have f4_ := f1_.symm; have f5_ := f3_.symm; clear f1_ f2_ f3_; subst f4_; subst f5_))
      refine hK.out _ _ ⟨(kQC BK793.out 0).trans rfl, (kQC BK793.out 1).trans rfl, (kQC BK777.out 0).trans rfl, (kQC BK777.out 1).trans rfl⟩ (fun hHeld => ?_)
      clear hK K
      refine norm_ (a' := ?_) ?_ ?_
      rotate_left
      ·show Act.put _ (some 43) _ = _
       simp only [Act.put, qSa, qSb, qSc, i64_w, i32_w]
       rfl
      refine one_ (i := 3) (N := some 44) #[true, true, true, true, false] rfl rfl (by kernel_rfl) (by decide) (fun K hK => ?_)
      refine goes_ Try.func19 (by kernel_rfl) rfl #[.agg #[.int .i64 t789, .slice Ao29 t790.length co29], .agg #[.int .i64 t801, .slice Ao63 t802.length co63]] (by rfl) rfl rfl (by (try simp only [List.map_toArray, List.map_cons, List.map_nil]); first | done | rfl | (simp only [List.length_drop, List.length_take]; rfl)) ?_
      with_reducible refine (laws_eqMatrix.calls kj10 t789 _ _ t790 t801 _ _ t802 true _ ?side1 ?side2 ?side3 ?side4 A57.out).mono ?_
      (case side1 => repeat (first | exact (Kd.R_reads' HO_794001.out).2.2 | (with_reducible refine Kd.CqA ?_ _) | (with_reducible refine Kd.CqN ?_ _) | (with_reducible refine Kd.CqD ?_)))
      (case side2 => exact (Kd.R_reads' HO_794001.out).2.1)
      (case side3 => repeat (first | exact (Kd.R_reads' HO804.out).2.2 | (with_reducible refine Kd.CqA ?_ _) | (with_reducible refine Kd.CqN ?_ _) | (with_reducible refine Kd.CqD ?_)))
      (case side4 => exact (Kd.R_reads' HO804.out).2.1)
      rintro e w64 ⟨rfl, hb⟩
      refine ⟨_, rfl, ?_⟩
      have n0_ := Aq.mk (Kd.R_below (by (with_reducible repeat (first | apply Kd.RqA | apply Kd.RqN | apply Kd.RqD)); exact HO_789001.out) hb)
      have n1_ := Aq.mk (Kd.R_below (by (with_reducible repeat (first | apply Kd.RqA | apply Kd.RqN | apply Kd.RqD)); exact HO_794001.out) hb)
      have n2_ := Aq.mk (Kd.R_below (by (with_reducible repeat (first | apply Kd.RqA | apply Kd.RqN | apply Kd.RqD)); exact HO_800001.out) hb)
      have n3_ := Aq.mk (Kd.R_below (by (with_reducible repeat (first | apply Kd.RqA | apply Kd.RqN | apply Kd.RqD)); exact HO804.out) hb)
      have n4_ := Aq.mk (kQB (g := gb777) (o := .cells #[.int .i64 a0_0, .slice A0_1 l0_1.length c0_1] 24 (0, 0)) (by (with_reducible repeat (first | refine kQN ?_ _ | refine kQD ?_ | refine kQA ?_ _)); exact BK777.out) hb)
      have n5_ := Aq.mk (kQB (g := gb788) (o := .cells #[.int .i64 t783, .slice Ao22 t784.length co22] 26 (0, 0)) (by (with_reducible repeat (first | refine kQN ?_ _ | refine kQD ?_ | refine kQA ?_ _)); exact BK788.out) hb)
      have n6_ := Aq.mk (kQB (g := gb793) (o := .cells #[.int .i64 t789, .slice Ao29 t790.length co29] 26 (0, 0)) (by (with_reducible repeat (first | refine kQN ?_ _ | refine kQD ?_ | refine kQA ?_ _)); exact BK793.out) hb)
      have n7_ := Aq.mk (kQB (g := gb799) (o := .cells #[.int .i64 t794, .slice Ao36 t795.length co36] 26 (0, 0)) (by (with_reducible repeat (first | refine kQN ?_ _ | refine kQD ?_ | refine kQA ?_ _)); exact BK799.out) hb)
      have n8_ := Aq.mk (bQT (by repeat (first | (with_reducible first | exact HB.out | apply bQA | apply bQN | apply bQ1 | refine bQS ?_ GE777.out | refine bQS ?_ GE788.out | refine bQS ?_ GE793.out | refine bQS ?_ GE799.out) | exact HB.out)) hb)
      clear HO_789001
      clear HO_794001
      clear HO_800001
      clear HO804
      clear BK777
      clear BK788
      clear BK793
      clear BK799
      clear HB
      have HO_789001 := n0_
      have HO_794001 := n1_
      have HO_800001 := n2_
      have HO804 := n3_
      have BK777 := n4_
      have BK788 := n5_
      have BK793 := n6_
      have BK799 := n7_
      have HB := n8_
      clear n0_ n1_ n2_ n3_ n4_ n5_ n6_ n7_ n8_
      (try clear hb)
      (try clear hb2)
      (try clear hk)
      (try clear hi)
      refine hK.out _ _ ⟨(kQC BK793.out 0).trans rfl, (kQC BK793.out 1).trans rfl, (kQC BK777.out 0).trans rfl, (kQC BK777.out 1).trans rfl⟩ (fun hHeld => ?_)
      clear hK K
      refine norm_ (a' := ?_) ?_ ?_
      rotate_left
      ·show Act.put _ (some 44) _ = _
       simp only [Act.put, qSa, qSb, qSc, i64_w, i32_w]
       rfl
      refine pure_ (i := 4) (N := some 45) (v := ?_) (a' := ?_) #[true, true, true, true, true] rfl rfl (by kernel_rfl) (fun _ _ _ h => h) (Or.inl ⟨by rfl, ?_⟩) ?_ ?_
      rotate_left
      ·intro w'
       go_simp
       with_reducible rfl
      rotate_left
      ·simp only [Act.put, qSa, qSb, qSc, i64_w, i32_w]
       rfl
      refine done_ (by kernel_rfl) ?_
      have hnb65 := NB793_777.out
      have hnc65 := NB777_793.out
      have hnb66 := NB793_788.out
      have hnc66 := NB788_793.out
      have hnb67 := NB793_799.out
      have hnc67 := NB799_793.out
      have hcz68_0 : w64.cell? ⟨gb793, 0, none⟩ = some (.int .i64 t789) := (kQC BK793.out 0).trans rfl
      have hcz68_1 : w64.cell? ⟨gb793, 1, none⟩ = some (.slice Ao29 t790.length co29) := (kQC BK793.out 1).trans rfl
      have hfz68_0 := kQF BK793.out 0
      have hfz68_1 := kQF BK793.out 1
      go_upto_region 14 with (first | ((with_reducible refine gQc (f := 20) rfl ?_); refine goesL_ (some 48) rfl rfl Try.func20 (by kernel_rfl) rfl #[.agg #[.int .i64 t789, .slice Ao29 t790.length co29], .int .i64 1] rfl (by (try simp only [List.map_toArray, List.map_cons, List.map_nil]); first | done | rfl | (simp only [List.length_drop, List.length_take]; rfl)) ?_; (with_reducible refine (laws_markMatrix.calls kj10 t789 (fun k_ => some k_ = (.slice Ao29 t790.length co29 : Value).ownBlock) (.slice Ao29 t790.length co29) t790 1 t806 t807 w _ ?side1 ?side2 A59.out).mono ?_); (case side1 => repeat (first | (with_reducible first | exact HB.out | apply bQA | apply bQN | apply bQ1 | refine bQS ?_ GE777.out | refine bQS ?_ GE788.out | refine bQS ?_ GE793.out | refine bQS ?_ GE799.out) | exact HB.out)); (case side2 => exact Kd.R_tight rfl HO_794001.out); rintro e w69 ⟨rfl, hy0, hb, hkp⟩; refine ⟨_, rfl, ?_⟩; have n0_ := Aq.mk (Kd.R_mono (ok' := fun k_ => some k_ ≠ (.slice Ao29 t790.length co29 : Value).ownBlock ∧ some k_ ≠ (.slice Ao36 t795.length co36 : Value).ownBlock ∧ some k_ ≠ (.slice Ao63 t802.length co63 : Value).ownBlock) (Kd.R_keptB (HO_789001.out) hkp (fun k_ hk_ hs_ => (hk_.1.1) hs_)) (fun k_ hk_ => ⟨hk_.1.1.1, hk_.1.1.2, hk_.1.2⟩)); have n1_ := Aq.mk (Kd.R_reok rfl hy0 (fun k_ e_ => HO_794001.out.1 k_ e_)); have n2_ := Aq.mk (Kd.R_mono (ok' := fun k_ => some k_ ≠ (.slice Ao22 t784.length co22 : Value).ownBlock ∧ some k_ ≠ (.slice Ao29 t790.length co29 : Value).ownBlock ∧ some k_ ≠ (.slice Ao63 t802.length co63 : Value).ownBlock) (Kd.R_keptB (HO_800001.out) hkp (fun k_ hk_ hs_ => (hk_.1.2) hs_)) (fun k_ hk_ => ⟨hk_.1.1.1, hk_.1.1.2, hk_.1.2⟩)); have n3_ := Aq.mk (blk_kept (by (with_reducible repeat (first | refine kQN ?_ _ | refine kQD ?_ | refine kQA ?_ _)); exact BK777.out) hkp (fun hs_ => (fun e_ => (Kd.R_ne HO_794001.out BK777.out (by decide)) e_) hs_)); have n4_ := Aq.mk (blk_kept (by (with_reducible repeat (first | refine kQN ?_ _ | refine kQD ?_ | refine kQA ?_ _)); exact BK788.out) hkp (fun hs_ => (fun e_ => (Kd.R_ne HO_794001.out BK788.out (by decide)) e_) hs_)); have n5_ := Aq.mk (blk_kept (by (with_reducible repeat (first | refine kQN ?_ _ | refine kQD ?_ | refine kQA ?_ _)); exact BK793.out) hkp (fun hs_ => (fun e_ => (Kd.R_ne HO_794001.out BK793.out (by decide)) e_) hs_)); have n6_ := Aq.mk (blk_kept (by (with_reducible repeat (first | refine kQN ?_ _ | refine kQD ?_ | refine kQA ?_ _)); exact BK799.out) hkp (fun hs_ => (fun e_ => (Kd.R_ne HO_794001.out BK799.out (by decide)) e_) hs_)); have n7_ := Aq.mk (Kd.R_mono (ok' := fun k_ => some k_ ≠ (.slice Ao22 t784.length co22 : Value).ownBlock ∧ some k_ ≠ (.slice Ao29 t790.length co29 : Value).ownBlock ∧ some k_ ≠ (.slice Ao36 t795.length co36 : Value).ownBlock) (Kd.R_keptB (HO804.out) hkp (fun k_ hk_ hs_ => (hk_.1.2) hs_)) (fun k_ hk_ => ⟨hk_.1.1.1.2, hk_.1.1.2, hk_.1.2⟩)); have n8_ := Aq.mk (hb); clear HO_789001; clear HO_794001; clear HO_800001; clear BK777; clear BK788; clear BK793; clear BK799; clear HO804; clear HB; have HO_789001 := n0_; have HO_794001 := n1_; have HO_800001 := n2_; have BK777 := n3_; have BK788 := n4_; have BK793 := n5_; have BK799 := n6_; have HO804 := n7_; have HB := n8_; clear n0_ n1_ n2_ n3_ n4_ n5_ n6_ n7_ n8_; (try clear hb); (try clear hkp); (try clear hy0)))
      (try simp only [Act.put, qSa, qSb, qSc])
      go_cut [61] (fun v61 wc => ∃ (kq : Nat) (x61_59 : Bool), v61 = .bool x61_59 ∧ Aq (laws_FnExactDualSpace.j1 kq t787 x61_59 a0_0 l0_1 t783 t784 t794 t795 = some r) ∧ Aq (kq ≤ kj10) ∧ Aq (Kd.R (Kd.int .i64) 2 wc w.heap.size (fun k_ => some k_ ≠ ((.slice Ao29 t790.length co29) : Value).ownBlock ∧ some k_ ≠ ((.slice Ao36 t795.length co36) : Value).ownBlock) (.slice Ao22 t784.length co22) t784) ∧ Aq (Kd.R (Kd.int .i64) 2 wc w.heap.size (fun k_ => some k_ ≠ ((.slice Ao22 t784.length co22) : Value).ownBlock ∧ some k_ ≠ ((.slice Ao36 t795.length co36) : Value).ownBlock) (.slice Ao29 t790.length co29) t807) ∧ Aq (Kd.R (Kd.int .i64) 2 wc w.heap.size (fun k_ => some k_ ≠ ((.slice Ao22 t784.length co22) : Value).ownBlock ∧ some k_ ≠ ((.slice Ao29 t790.length co29) : Value).ownBlock) (.slice Ao36 t795.length co36) t795) ∧ Aq (wc.heap[gb777]? = some (.cells #[.int .i64 a0_0, (.slice A0_1 l0_1.length c0_1)] 24 (0, 0))) ∧ Aq (wc.heap[gb788]? = some (.cells #[.int .i64 t783, (.slice Ao22 t784.length co22)] 26 (0, 0))) ∧ Aq (wc.heap[gb793]? = some (.cells #[.int .i64 t789, (.slice Ao29 t790.length co29)] 26 (0, 0))) ∧ Aq (wc.heap[gb799]? = some (.cells #[.int .i64 t794, (.slice Ao36 t795.length co36)] 26 (0, 0))) ∧ Aq (Below w.heap.size w wc))
      case first =>
       have H := HC60.out
       clear HC60
       by_cases c70 : t806 < 0
       ·rw [if_pos c70] at H
        have c70b0 : decide (t806 < 0) = true := decide_eq_true c70
        clear c70
        (first | rw [c70b0] | (simp only [i64_w, i32_w]; rw [c70b0]) | skip)
        have H' := Aq.mk H
        clear H
        go_wp2
        go_meet
        case rel => exact ⟨_, (true), (by first | rfl | (simp; done) | (simp [*]; done)), H', ⟨by have := HJ10.out; first | omega | exact Nat.le_refl _⟩, ⟨by (with_reducible repeat (first | apply Kd.RqA | apply Kd.RqN | apply Kd.RqD)); exact Kd.R_mono HO_789001.out (fun _ hk => ⟨hk.1, hk.2.1⟩)⟩, ⟨by (with_reducible repeat (first | apply Kd.RqA | apply Kd.RqN | apply Kd.RqD)); exact Kd.R_mono HO_794001.out (fun _ hk => ⟨hk.1.1, hk.1.2⟩)⟩, ⟨by (with_reducible repeat (first | apply Kd.RqA | apply Kd.RqN | apply Kd.RqD)); exact Kd.R_mono HO_800001.out (fun _ hk => ⟨hk.1, hk.2.1⟩)⟩, ⟨by (with_reducible repeat (first | refine kQN ?_ _ | refine kQD ?_ | refine kQA ?_ _)); exact BK777.out⟩, ⟨by (with_reducible repeat (first | refine kQN ?_ _ | refine kQD ?_ | refine kQA ?_ _)); exact BK788.out⟩, ⟨by (with_reducible repeat (first | refine kQN ?_ _ | refine kQD ?_ | refine kQA ?_ _)); exact BK793.out⟩, ⟨by (with_reducible repeat (first | refine kQN ?_ _ | refine kQD ?_ | refine kQA ?_ _)); exact BK799.out⟩, ⟨by repeat (first | (with_reducible first | exact HB.out | apply bQA | apply bQN | apply bQ1 | refine bQS ?_ GE777.out | refine bQS ?_ GE788.out | refine bQS ?_ GE793.out | refine bQS ?_ GE799.out) | exact HB.out)⟩⟩
       ·rw [if_neg c70] at H
        have c70b0 : decide (t806 < 0) = false := decide_eq_false c70
        clear c70
        (first | rw [c70b0] | (simp only [i64_w, i32_w]; rw [c70b0]) | skip)
        replace H := Option.bind_eq_some_iff.mp H
        obtain ⟨t808, A710, H⟩ := H
        replace H : (if t808 = true then (laws_FnExactDualSpace.j1 kj10 t787 (t798 != t787) a0_0 l0_1 t783 t784 t794 t795) else (laws_FnExactDualSpace.j1 kj10 t787 true a0_0 l0_1 t783 t784 t794 t795)) = some r := H
        have A71 := Aq.mk A710
        clear A710
        by_cases c72 : t808 = true
        ·subst c72
         have H1 : (laws_FnExactDualSpace.j1 kj10 t787 (t798 != t787) a0_0 l0_1 t783 t784 t794 t795) = some r := by rw [if_pos rfl] at H; exact H
         clear H
         have H := H1
         clear H1
         have H' := Aq.mk H
         clear H
         have hnb73 := NB799_777.out
         have hnc73 := NB777_799.out
         have hnb74 := NB799_788.out
         have hnc74 := NB788_799.out
         have hnb75 := NB799_793.out
         have hnc75 := NB793_799.out
         have hcz76_0 : w69.cell? ⟨gb799, 0, none⟩ = some (.int .i64 t794) := (kQC BK799.out 0).trans rfl
         have hcz76_1 : w69.cell? ⟨gb799, 1, none⟩ = some (.slice Ao36 t795.length co36) := (kQC BK799.out 1).trans rfl
         have hfz76_0 := kQF BK799.out 0
         have hfz76_1 := kQF BK799.out 1
         have hnb77 := NB788_777.out
         have hnc77 := NB777_788.out
         have hnb78 := NB788_793.out
         have hnc78 := NB793_788.out
         have hcz79_0 : w69.cell? ⟨gb788, 0, none⟩ = some (.int .i64 t783) := (kQC BK788.out 0).trans rfl
         have hcz79_1 : w69.cell? ⟨gb788, 1, none⟩ = some (.slice Ao22 t784.length co22) := (kQC BK788.out 1).trans rfl
         have hfz79_0 := kQF BK788.out 0
         have hfz79_1 := kQF BK788.out 1
         go_wp2_with (first | (go_at_call 19; (with_reducible refine (laws_eqMatrix.calls kj10 t794 _ _ t795 t783 _ _ t784 true _ ?side1 ?side2 ?side3 ?side4 A71.out).mono ?_); (case side1 => repeat (first | exact (Kd.R_reads' HO_800001.out).2.2 | (with_reducible refine Kd.CqA ?_ _) | (with_reducible refine Kd.CqN ?_ _) | (with_reducible refine Kd.CqD ?_))); (case side2 => exact (Kd.R_reads' HO_800001.out).2.1); (case side3 => repeat (first | exact (Kd.R_reads' HO_789001.out).2.2 | (with_reducible refine Kd.CqA ?_ _) | (with_reducible refine Kd.CqN ?_ _) | (with_reducible refine Kd.CqD ?_))); (case side4 => exact (Kd.R_reads' HO_789001.out).2.1); rintro e w80 ⟨rfl, hb⟩; have n0_ := Aq.mk (Kd.R_below (by (with_reducible repeat (first | apply Kd.RqA | apply Kd.RqN | apply Kd.RqD)); exact HO_789001.out) hb); have n1_ := Aq.mk (Kd.R_below (by (with_reducible repeat (first | apply Kd.RqA | apply Kd.RqN | apply Kd.RqD)); exact HO_794001.out) hb); have n2_ := Aq.mk (Kd.R_below (by (with_reducible repeat (first | apply Kd.RqA | apply Kd.RqN | apply Kd.RqD)); exact HO_800001.out) hb); have n3_ := Aq.mk (Kd.R_below (by (with_reducible repeat (first | apply Kd.RqA | apply Kd.RqN | apply Kd.RqD)); exact HO804.out) hb); have n4_ := Aq.mk (kQB (g := gb777) (o := .cells #[.int .i64 a0_0, .slice A0_1 l0_1.length c0_1] 24 (0, 0)) (by (with_reducible repeat (first | refine kQN ?_ _ | refine kQD ?_ | refine kQA ?_ _)); exact BK777.out) hb); have n5_ := Aq.mk (kQB (g := gb788) (o := .cells #[.int .i64 t783, .slice Ao22 t784.length co22] 26 (0, 0)) (by (with_reducible repeat (first | refine kQN ?_ _ | refine kQD ?_ | refine kQA ?_ _)); exact BK788.out) hb); have n6_ := Aq.mk (kQB (g := gb793) (o := .cells #[.int .i64 t789, .slice Ao29 t790.length co29] 26 (0, 0)) (by (with_reducible repeat (first | refine kQN ?_ _ | refine kQD ?_ | refine kQA ?_ _)); exact BK793.out) hb); have n7_ := Aq.mk (kQB (g := gb799) (o := .cells #[.int .i64 t794, .slice Ao36 t795.length co36] 26 (0, 0)) (by (with_reducible repeat (first | refine kQN ?_ _ | refine kQD ?_ | refine kQA ?_ _)); exact BK799.out) hb); have n8_ := Aq.mk (bQT (by repeat (first | (with_reducible first | exact HB.out | apply bQA | apply bQN | apply bQ1 | refine bQS ?_ GE777.out | refine bQS ?_ GE788.out | refine bQS ?_ GE793.out | refine bQS ?_ GE799.out) | exact HB.out)) hb); clear HO_789001; clear HO_794001; clear HO_800001; clear HO804; clear BK777; clear BK788; clear BK793; clear BK799; clear HB; have HO_789001 := n0_; have HO_794001 := n1_; have HO_800001 := n2_; have HO804 := n3_; have BK777 := n4_; have BK788 := n5_; have BK793 := n6_; have BK799 := n7_; have HB := n8_; clear n0_ n1_ n2_ n3_ n4_ n5_ n6_ n7_ n8_; (try clear hb); (try clear hb2); (try clear hk); (try clear hi)))
         go_meet
         case rel => exact ⟨_, ((t798 != t787)), (by first | rfl | (simp; done) | (simp [*]; done)), H', ⟨by have := HJ10.out; first | omega | exact Nat.le_refl _⟩, ⟨by (with_reducible repeat (first | apply Kd.RqA | apply Kd.RqN | apply Kd.RqD)); exact Kd.R_mono HO_789001.out (fun _ hk => ⟨hk.1, hk.2.1⟩)⟩, ⟨by (with_reducible repeat (first | apply Kd.RqA | apply Kd.RqN | apply Kd.RqD)); exact Kd.R_mono HO_794001.out (fun _ hk => ⟨hk.1.1, hk.1.2⟩)⟩, ⟨by (with_reducible repeat (first | apply Kd.RqA | apply Kd.RqN | apply Kd.RqD)); exact Kd.R_mono HO_800001.out (fun _ hk => ⟨hk.1, hk.2.1⟩)⟩, ⟨by (with_reducible repeat (first | refine kQN ?_ _ | refine kQD ?_ | refine kQA ?_ _)); exact BK777.out⟩, ⟨by (with_reducible repeat (first | refine kQN ?_ _ | refine kQD ?_ | refine kQA ?_ _)); exact BK788.out⟩, ⟨by (with_reducible repeat (first | refine kQN ?_ _ | refine kQD ?_ | refine kQA ?_ _)); exact BK793.out⟩, ⟨by (with_reducible repeat (first | refine kQN ?_ _ | refine kQD ?_ | refine kQA ?_ _)); exact BK799.out⟩, ⟨by repeat (first | (with_reducible first | exact HB.out | apply bQA | apply bQN | apply bQ1 | refine bQS ?_ GE777.out | refine bQS ?_ GE788.out | refine bQS ?_ GE793.out | refine bQS ?_ GE799.out) | exact HB.out)⟩⟩
        ·replace c72 := Bool.eq_false_iff.mpr c72
         subst c72
         have H1 : (laws_FnExactDualSpace.j1 kj10 t787 true a0_0 l0_1 t783 t784 t794 t795) = some r := by rw [if_neg (show ¬ (false = true) by decide)] at H; exact H
         clear H
         have H := H1
         clear H1
         have H' := Aq.mk H
         clear H
         have hnb81 := NB799_777.out
         have hnc81 := NB777_799.out
         have hnb82 := NB799_788.out
         have hnc82 := NB788_799.out
         have hnb83 := NB799_793.out
         have hnc83 := NB793_799.out
         have hcz84_0 : w69.cell? ⟨gb799, 0, none⟩ = some (.int .i64 t794) := (kQC BK799.out 0).trans rfl
         have hcz84_1 : w69.cell? ⟨gb799, 1, none⟩ = some (.slice Ao36 t795.length co36) := (kQC BK799.out 1).trans rfl
         have hfz84_0 := kQF BK799.out 0
         have hfz84_1 := kQF BK799.out 1
         have hnb85 := NB788_777.out
         have hnc85 := NB777_788.out
         have hnb86 := NB788_793.out
         have hnc86 := NB793_788.out
         have hcz87_0 : w69.cell? ⟨gb788, 0, none⟩ = some (.int .i64 t783) := (kQC BK788.out 0).trans rfl
         have hcz87_1 : w69.cell? ⟨gb788, 1, none⟩ = some (.slice Ao22 t784.length co22) := (kQC BK788.out 1).trans rfl
         have hfz87_0 := kQF BK788.out 0
         have hfz87_1 := kQF BK788.out 1
         go_wp2_with (first | (go_at_call 19; (with_reducible refine (laws_eqMatrix.calls kj10 t794 _ _ t795 t783 _ _ t784 false _ ?side1 ?side2 ?side3 ?side4 A71.out).mono ?_); (case side1 => repeat (first | exact (Kd.R_reads' HO_800001.out).2.2 | (with_reducible refine Kd.CqA ?_ _) | (with_reducible refine Kd.CqN ?_ _) | (with_reducible refine Kd.CqD ?_))); (case side2 => exact (Kd.R_reads' HO_800001.out).2.1); (case side3 => repeat (first | exact (Kd.R_reads' HO_789001.out).2.2 | (with_reducible refine Kd.CqA ?_ _) | (with_reducible refine Kd.CqN ?_ _) | (with_reducible refine Kd.CqD ?_))); (case side4 => exact (Kd.R_reads' HO_789001.out).2.1); rintro e w88 ⟨rfl, hb⟩; have n0_ := Aq.mk (Kd.R_below (by (with_reducible repeat (first | apply Kd.RqA | apply Kd.RqN | apply Kd.RqD)); exact HO_789001.out) hb); have n1_ := Aq.mk (Kd.R_below (by (with_reducible repeat (first | apply Kd.RqA | apply Kd.RqN | apply Kd.RqD)); exact HO_794001.out) hb); have n2_ := Aq.mk (Kd.R_below (by (with_reducible repeat (first | apply Kd.RqA | apply Kd.RqN | apply Kd.RqD)); exact HO_800001.out) hb); have n3_ := Aq.mk (Kd.R_below (by (with_reducible repeat (first | apply Kd.RqA | apply Kd.RqN | apply Kd.RqD)); exact HO804.out) hb); have n4_ := Aq.mk (kQB (g := gb777) (o := .cells #[.int .i64 a0_0, .slice A0_1 l0_1.length c0_1] 24 (0, 0)) (by (with_reducible repeat (first | refine kQN ?_ _ | refine kQD ?_ | refine kQA ?_ _)); exact BK777.out) hb); have n5_ := Aq.mk (kQB (g := gb788) (o := .cells #[.int .i64 t783, .slice Ao22 t784.length co22] 26 (0, 0)) (by (with_reducible repeat (first | refine kQN ?_ _ | refine kQD ?_ | refine kQA ?_ _)); exact BK788.out) hb); have n6_ := Aq.mk (kQB (g := gb793) (o := .cells #[.int .i64 t789, .slice Ao29 t790.length co29] 26 (0, 0)) (by (with_reducible repeat (first | refine kQN ?_ _ | refine kQD ?_ | refine kQA ?_ _)); exact BK793.out) hb); have n7_ := Aq.mk (kQB (g := gb799) (o := .cells #[.int .i64 t794, .slice Ao36 t795.length co36] 26 (0, 0)) (by (with_reducible repeat (first | refine kQN ?_ _ | refine kQD ?_ | refine kQA ?_ _)); exact BK799.out) hb); have n8_ := Aq.mk (bQT (by repeat (first | (with_reducible first | exact HB.out | apply bQA | apply bQN | apply bQ1 | refine bQS ?_ GE777.out | refine bQS ?_ GE788.out | refine bQS ?_ GE793.out | refine bQS ?_ GE799.out) | exact HB.out)) hb); clear HO_789001; clear HO_794001; clear HO_800001; clear HO804; clear BK777; clear BK788; clear BK793; clear BK799; clear HB; have HO_789001 := n0_; have HO_794001 := n1_; have HO_800001 := n2_; have HO804 := n3_; have BK777 := n4_; have BK788 := n5_; have BK793 := n6_; have BK799 := n7_; have HB := n8_; clear n0_ n1_ n2_ n3_ n4_ n5_ n6_ n7_ n8_; (try clear hb); (try clear hb2); (try clear hk); (try clear hi)))
         go_meet
         case rel => exact ⟨_, (true), (by first | rfl | (simp; done) | (simp [*]; done)), H', ⟨by have := HJ10.out; first | omega | exact Nat.le_refl _⟩, ⟨by (with_reducible repeat (first | apply Kd.RqA | apply Kd.RqN | apply Kd.RqD)); exact Kd.R_mono HO_789001.out (fun _ hk => ⟨hk.1, hk.2.1⟩)⟩, ⟨by (with_reducible repeat (first | apply Kd.RqA | apply Kd.RqN | apply Kd.RqD)); exact Kd.R_mono HO_794001.out (fun _ hk => ⟨hk.1.1, hk.1.2⟩)⟩, ⟨by (with_reducible repeat (first | apply Kd.RqA | apply Kd.RqN | apply Kd.RqD)); exact Kd.R_mono HO_800001.out (fun _ hk => ⟨hk.1, hk.2.1⟩)⟩, ⟨by (with_reducible repeat (first | refine kQN ?_ _ | refine kQD ?_ | refine kQA ?_ _)); exact BK777.out⟩, ⟨by (with_reducible repeat (first | refine kQN ?_ _ | refine kQD ?_ | refine kQA ?_ _)); exact BK788.out⟩, ⟨by (with_reducible repeat (first | refine kQN ?_ _ | refine kQD ?_ | refine kQA ?_ _)); exact BK793.out⟩, ⟨by (with_reducible repeat (first | refine kQN ?_ _ | refine kQD ?_ | refine kQA ?_ _)); exact BK799.out⟩, ⟨by repeat (first | (with_reducible first | exact HB.out | apply bQA | apply bQN | apply bQ1 | refine bQS ?_ GE777.out | refine bQS ?_ GE788.out | refine bQS ?_ GE793.out | refine bQS ?_ GE799.out) | exact HB.out)⟩⟩
      case rest =>
       clear HC60
       try clear c1
       try clear c2
       try clear p2
       try clear c3
       try clear c3b0
       try clear c4
       try clear c5
       try clear c6
       try clear c7
       try clear c8
       try clear c9
       try clear c15
       try clear c17
       try clear c19
       try clear c20
       try clear c26
       try clear c27
       try clear c31
       try clear c32
       try clear c33
       try clear c34
       try clear c38
       try clear c39
       try clear c40
       try clear c41
       try clear c43
       try clear c44
       try clear c47
       try clear c48
       try clear c49
       try clear c51
       try clear c52
       try clear c55
       try clear c58
       try clear c65
       try clear c66
       try clear c67
       try clear c70
       try clear c70b0
       try clear c72
       try clear c73
       try clear c74
       try clear c75
       try clear c77
       try clear c78
       try clear c81
       try clear c82
       try clear c83
       try clear c85
       try clear c86
       try clear hcz13_0
       try clear hcz13_1
       try clear hcz15_0
       try clear hcz15_1
       try clear hcz21_0
       try clear hcz21_1
       try clear hcz23_0
       try clear hcz23_1
       try clear hcz28_0
       try clear hcz28_1
       try clear hcz35_0
       try clear hcz35_1
       try clear hcz42_0
       try clear hcz42_1
       try clear hcz45_0
       try clear hcz45_1
       try clear hcz50_0
       try clear hcz50_1
       try clear hcz53_0
       try clear hcz53_1
       try clear hcz5_0
       try clear hcz5_1
       try clear hcz68_0
       try clear hcz68_1
       try clear hcz76_0
       try clear hcz76_1
       try clear hcz79_0
       try clear hcz79_1
       try clear hcz84_0
       try clear hcz84_1
       try clear hcz87_0
       try clear hcz87_1
       try clear hfz13_0
       try clear hfz13_1
       try clear hfz15_0
       try clear hfz15_1
       try clear hfz21_0
       try clear hfz21_1
       try clear hfz23_0
       try clear hfz23_1
       try clear hfz28_0
       try clear hfz28_1
       try clear hfz35_0
       try clear hfz35_1
       try clear hfz42_0
       try clear hfz42_1
       try clear hfz45_0
       try clear hfz45_1
       try clear hfz50_0
       try clear hfz50_1
       try clear hfz53_0
       try clear hfz53_1
       try clear hfz5_0
       try clear hfz5_1
       try clear hfz68_0
       try clear hfz68_1
       try clear hfz76_0
       try clear hfz76_1
       try clear hfz79_0
       try clear hfz79_1
       try clear hfz84_0
       try clear hfz84_1
       try clear hfz87_0
       try clear hfz87_1
       try clear p2
       obtain ⟨kq, x61_59, rfl, HA, HJ59, HO_789001, HO_794001, HO_800001, BK777, BK788, BK793, BK799, HB⟩ := hcut
       have hl794001_59 := (Kd.R_reads' HO_794001.out).1
       rw [hl794001_59] at HO_794001
       (try simp only [hl794001_59])
       (try simp only [hl794001_59] at BK777)
       (try simp only [hl794001_59] at BK788)
       (try simp only [hl794001_59] at BK793)
       (try simp only [hl794001_59] at BK799)
       (try simp only [hl794001_59] at HO_789001)
       (try simp only [hl794001_59] at HO_800001)
       cases kq with
       | zero => exact absurd HA.out (by simp [laws_FnExactDualSpace.j1])
       | succ kj59 =>
        have H := HA.out
        clear HA
        simp only [laws_FnExactDualSpace.j1] at H
        by_cases c89 : x61_59 = true
        ·subst c89
         have H1 : (some false) = some r := by rw [if_pos rfl] at H; exact H
         clear H
         have H := H1
         clear H1
         obtain rfl := Option.some.inj H
         go_wp2
         go_ret
         exact ⟨by first | rfl | (simp [errW_none, errW_some] <;> rfl) | (simp [*, errW_none, errW_some] <;> rfl), by repeat (first | (with_reducible first | exact HB.out | apply bQA | apply bQN | apply bQ1 | refine bQS ?_ GE777.out | refine bQS ?_ GE788.out | refine bQS ?_ GE793.out | refine bQS ?_ GE799.out) | exact HB.out)⟩
        ·replace c89 := Bool.eq_false_iff.mpr c89
         subst c89
         have H1 : ((laws_markMatrix.f kj59 t794 t795 1).bind fun bt809 => ((laws_heldMatrix.f kj59 t794 bt809.2 1).bind fun t811 => (if t811 < 0 then (some false) else (if t811 = bt809.1 then ((laws_toMatrix.f kj59 a0_0 l0_1).bind fun bt812 => ((impl_DualSpace.f kj59 bt812.1 bt812.2).bind fun bt816 => ((laws_eqMatrix.f kj59 bt816.1 bt816.2.1 t783 t784).bind fun t822 => (if t822 = true then (laws_FnExactDualSpace.j2 kj59 bt809.1 (bt816.2.2 != t787) t794 bt809.2) else (laws_FnExactDualSpace.j2 kj59 bt809.1 true t794 bt809.2))))) else (some false))))) = some r := by rw [if_neg (show ¬ (false = true) by decide)] at H; exact H
         clear H
         have H := H1
         clear H1
         replace H := Option.bind_eq_some_iff.mp H
         obtain ⟨⟨t809, t810⟩, A900, H⟩ := H
         replace H : ((laws_heldMatrix.f kj59 t794 t810 1).bind fun t811 => (if t811 < 0 then (some false) else (if t811 = t809 then ((laws_toMatrix.f kj59 a0_0 l0_1).bind fun bt812 => ((impl_DualSpace.f kj59 bt812.1 bt812.2).bind fun bt816 => ((laws_eqMatrix.f kj59 bt816.1 bt816.2.1 t783 t784).bind fun t822 => (if t822 = true then (laws_FnExactDualSpace.j2 kj59 t809 (bt816.2.2 != t787) t794 t810) else (laws_FnExactDualSpace.j2 kj59 t809 true t794 t810))))) else (some false)))) = some r := H
         have A90 := Aq.mk A900
         clear A900
         replace H := Option.bind_eq_some_iff.mp H
         obtain ⟨t811, A910, H⟩ := H
         replace H : (if t811 < 0 then (some false) else (if t811 = t809 then ((laws_toMatrix.f kj59 a0_0 l0_1).bind fun bt812 => ((impl_DualSpace.f kj59 bt812.1 bt812.2).bind fun bt816 => ((laws_eqMatrix.f kj59 bt816.1 bt816.2.1 t783 t784).bind fun t822 => (if t822 = true then (laws_FnExactDualSpace.j2 kj59 t809 (bt816.2.2 != t787) t794 t810) else (laws_FnExactDualSpace.j2 kj59 t809 true t794 t810))))) else (some false))) = some r := H
         have A91 := Aq.mk A910
         clear A910
         by_cases c92 : t811 < 0
         ·rw [if_pos c92] at H
          have c92b0 : decide (t811 < 0) = true := decide_eq_true c92
          clear c92
          (try (have c92b0z := c92b0; simp only [hl794001_59] at c92b0z))
          obtain rfl := Option.some.inj H
          have hnb93 := NB799_777.out
          have hnc93 := NB777_799.out
          have hnb94 := NB799_788.out
          have hnc94 := NB788_799.out
          have hnb95 := NB799_793.out
          have hnc95 := NB793_799.out
          have hcz96_0 : wc.cell? ⟨gb799, 0, none⟩ = some (.int .i64 t794) := (kQC BK799.out 0).trans rfl
          have hcz96_1 : wc.cell? ⟨gb799, 1, none⟩ = some (.slice Ao36 t795.length co36) := (kQC BK799.out 1).trans rfl
          have hfz96_0 := kQF BK799.out 0
          have hfz96_1 := kQF BK799.out 1
          go_wp2_with (first | ((with_reducible refine gQc (f := 20) rfl ?_); refine goesL_ (some 64) rfl rfl Try.func20 (by kernel_rfl) rfl #[.agg #[.int .i64 t794, .slice Ao36 t795.length co36], .int .i64 1] rfl (by (try simp only [List.map_toArray, List.map_cons, List.map_nil]); first | done | rfl | (simp only [List.length_drop, List.length_take]; rfl)) ?_; (with_reducible refine (laws_markMatrix.calls kj59 t794 (fun k_ => some k_ = (.slice Ao36 t795.length co36 : Value).ownBlock) (.slice Ao36 t795.length co36) t795 1 t809 t810 w _ ?side1 ?side2 A90.out).mono ?_); (case side1 => repeat (first | (with_reducible first | exact HB.out | apply bQA | apply bQN | apply bQ1 | refine bQS ?_ GE777.out | refine bQS ?_ GE788.out | refine bQS ?_ GE793.out | refine bQS ?_ GE799.out) | exact HB.out)); (case side2 => exact Kd.R_tight rfl HO_800001.out); rintro e w97 ⟨rfl, hy0, hb, hkp⟩; refine ⟨_, rfl, ?_⟩; have n0_ := Aq.mk (Kd.R_mono (ok' := fun k_ => some k_ ≠ (.slice Ao29 t807.length co29 : Value).ownBlock ∧ some k_ ≠ (.slice Ao36 t795.length co36 : Value).ownBlock) (Kd.R_keptB (HO_789001.out) hkp (fun k_ hk_ hs_ => (hk_.2) hs_)) (fun k_ hk_ => ⟨hk_.1.1, hk_.1.2⟩)); have n1_ := Aq.mk (Kd.R_mono (ok' := fun k_ => some k_ ≠ (.slice Ao22 t784.length co22 : Value).ownBlock ∧ some k_ ≠ (.slice Ao36 t795.length co36 : Value).ownBlock) (Kd.R_keptB (HO_794001.out) hkp (fun k_ hk_ hs_ => (hk_.2) hs_)) (fun k_ hk_ => ⟨hk_.1.1, hk_.1.2⟩)); have n2_ := Aq.mk (Kd.R_reok rfl hy0 (fun k_ e_ => HO_800001.out.1 k_ e_)); have n3_ := Aq.mk (blk_kept (by (with_reducible repeat (first | refine kQN ?_ _ | refine kQD ?_ | refine kQA ?_ _)); exact BK777.out) hkp (fun hs_ => (fun e_ => (Kd.R_ne HO_800001.out BK777.out (by decide)) e_) hs_)); have n4_ := Aq.mk (blk_kept (by (with_reducible repeat (first | refine kQN ?_ _ | refine kQD ?_ | refine kQA ?_ _)); exact BK788.out) hkp (fun hs_ => (fun e_ => (Kd.R_ne HO_800001.out BK788.out (by decide)) e_) hs_)); have n5_ := Aq.mk (blk_kept (by (with_reducible repeat (first | refine kQN ?_ _ | refine kQD ?_ | refine kQA ?_ _)); exact BK793.out) hkp (fun hs_ => (fun e_ => (Kd.R_ne HO_800001.out BK793.out (by decide)) e_) hs_)); have n6_ := Aq.mk (blk_kept (by (with_reducible repeat (first | refine kQN ?_ _ | refine kQD ?_ | refine kQA ?_ _)); exact BK799.out) hkp (fun hs_ => (fun e_ => (Kd.R_ne HO_800001.out BK799.out (by decide)) e_) hs_)); have n7_ := Aq.mk (hb); clear HO_789001; clear HO_794001; clear HO_800001; clear BK777; clear BK788; clear BK793; clear BK799; clear HB; have HO_789001 := n0_; have HO_794001 := n1_; have HO_800001 := n2_; have BK777 := n3_; have BK788 := n4_; have BK793 := n5_; have BK799 := n6_; have HB := n7_; clear n0_ n1_ n2_ n3_ n4_ n5_ n6_ n7_; (try clear hb); (try clear hkp); (try clear hy0); have hcz98_0 : w97.cell? ⟨gb799, 0, none⟩ = some (.int .i64 t794) := (kQC BK799.out 0).trans rfl; have hcz98_1 : w97.cell? ⟨gb799, 1, none⟩ = some (.slice Ao36 t795.length co36) := (kQC BK799.out 1).trans rfl; have hfz98_0 := kQF BK799.out 0; have hfz98_1 := kQF BK799.out 1) | ((with_reducible refine gQc (f := 21) rfl ?_); refine goesL_ (some 67) rfl rfl Try.func21 (by kernel_rfl) rfl #[.agg #[.int .i64 t794, .slice Ao36 t810.length co36], .int .i64 1] rfl (by (try simp only [List.map_toArray, List.map_cons, List.map_nil]); first | done | (rw [show t810.length = t795.length from (Kd.R_reads' HO_800001.out).1.symm] <;> rfl) | rfl | (simp only [List.length_drop, List.length_take]; rfl)) ?_; (with_reducible refine (laws_heldMatrix.calls kj59 t794 _ _ t810 1 t811 _ ?side1 ?side2 A91.out).mono ?_); (case side1 => repeat (first | exact (Kd.R_reads' HO_800001.out).2.2 | (with_reducible refine Kd.CqA ?_ _) | (with_reducible refine Kd.CqN ?_ _) | (with_reducible refine Kd.CqD ?_))); (case side2 => rw [show t810.length = t795.length from (Kd.R_reads' HO_800001.out).1.symm]; exact (Kd.R_reads' HO_800001.out).2.1); rintro e w99 ⟨rfl, hb⟩; refine ⟨_, rfl, ?_⟩; have n0_ := Aq.mk (Kd.R_below (by (with_reducible repeat (first | apply Kd.RqA | apply Kd.RqN | apply Kd.RqD)); exact HO_789001.out) hb); have n1_ := Aq.mk (Kd.R_below (by (with_reducible repeat (first | apply Kd.RqA | apply Kd.RqN | apply Kd.RqD)); exact HO_794001.out) hb); have n2_ := Aq.mk (Kd.R_below (by (with_reducible repeat (first | apply Kd.RqA | apply Kd.RqN | apply Kd.RqD)); exact HO_800001.out) hb); have n3_ := Aq.mk (kQB (g := gb777) (o := .cells #[.int .i64 a0_0, .slice A0_1 l0_1.length c0_1] 24 (0, 0)) (by (with_reducible repeat (first | refine kQN ?_ _ | refine kQD ?_ | refine kQA ?_ _)); exact BK777.out) hb); have n4_ := Aq.mk (kQB (g := gb788) (o := .cells #[.int .i64 t783, .slice Ao22 t784.length co22] 26 (0, 0)) (by (with_reducible repeat (first | refine kQN ?_ _ | refine kQD ?_ | refine kQA ?_ _)); exact BK788.out) hb); have n5_ := Aq.mk (kQB (g := gb793) (o := .cells #[.int .i64 t789, .slice Ao29 t807.length co29] 26 (0, 0)) (by (with_reducible repeat (first | refine kQN ?_ _ | refine kQD ?_ | refine kQA ?_ _)); exact BK793.out) hb); have n6_ := Aq.mk (kQB (g := gb799) (o := .cells #[.int .i64 t794, .slice Ao36 t795.length co36] 26 (0, 0)) (by (with_reducible repeat (first | refine kQN ?_ _ | refine kQD ?_ | refine kQA ?_ _)); exact BK799.out) hb); have n7_ := Aq.mk (bQT (by repeat (first | (with_reducible first | exact HB.out | apply bQA | apply bQN | apply bQ1 | refine bQS ?_ GE777.out | refine bQS ?_ GE788.out | refine bQS ?_ GE793.out | refine bQS ?_ GE799.out) | exact HB.out)) hb); clear HO_789001; clear HO_794001; clear HO_800001; clear BK777; clear BK788; clear BK793; clear BK799; clear HB; have HO_789001 := n0_; have HO_794001 := n1_; have HO_800001 := n2_; have BK777 := n3_; have BK788 := n4_; have BK793 := n5_; have BK799 := n6_; have HB := n7_; clear n0_ n1_ n2_ n3_ n4_ n5_ n6_ n7_; (try clear hb); (try clear hb2); (try clear hk); (try clear hi)))
          go_ret
          exact ⟨by first | rfl | (simp [errW_none, errW_some] <;> rfl) | (simp [*, errW_none, errW_some] <;> rfl), by repeat (first | (with_reducible first | exact HB.out | apply bQA | apply bQN | apply bQ1 | refine bQS ?_ GE777.out | refine bQS ?_ GE788.out | refine bQS ?_ GE793.out | refine bQS ?_ GE799.out) | exact HB.out)⟩
         ·rw [if_neg c92] at H
          have c92b0 : decide (t811 < 0) = false := decide_eq_false c92
          clear c92
          (try (have c92b0z := c92b0; simp only [hl794001_59] at c92b0z))
          by_cases c100 : t811 = t809
          ·rw [if_pos c100] at H
           have c100b0 : (t811 == t809) = true := beq_iff_eq.mpr c100
           have c100b1 : (t811 != t809) = false := bne_eq_false_iff_eq.mpr c100
           clear c100
           (try (have c100b0z := c100b0; simp only [hl794001_59] at c100b0z))
           (try (have c100b1z := c100b1; simp only [hl794001_59] at c100b1z))
           replace H := Option.bind_eq_some_iff.mp H
           obtain ⟨⟨t812, t813⟩, A1010, H⟩ := H
           replace H : ((impl_DualSpace.f kj59 t812 t813).bind fun bt816 => ((laws_eqMatrix.f kj59 bt816.1 bt816.2.1 t783 t784).bind fun t822 => (if t822 = true then (laws_FnExactDualSpace.j2 kj59 t809 (bt816.2.2 != t787) t794 t810) else (laws_FnExactDualSpace.j2 kj59 t809 true t794 t810)))) = some r := H
           have A101 := Aq.mk A1010
           clear A1010
           replace H := Option.bind_eq_some_iff.mp H
           obtain ⟨⟨t816, t817, t820⟩, A1020, H⟩ := H
           replace H : ((laws_eqMatrix.f kj59 t816 t817 t783 t784).bind fun t822 => (if t822 = true then (laws_FnExactDualSpace.j2 kj59 t809 (t820 != t787) t794 t810) else (laws_FnExactDualSpace.j2 kj59 t809 true t794 t810))) = some r := H
           have A102 := Aq.mk A1020
           clear A1020
           have HC103 := Aq.mk H
           clear H
           have hnb104 := NB799_777.out
           have hnc104 := NB777_799.out
           have hnb105 := NB799_788.out
           have hnc105 := NB788_799.out
           have hnb106 := NB799_793.out
           have hnc106 := NB793_799.out
           have hcz107_0 : wc.cell? ⟨gb799, 0, none⟩ = some (.int .i64 t794) := (kQC BK799.out 0).trans rfl
           have hcz107_1 : wc.cell? ⟨gb799, 1, none⟩ = some (.slice Ao36 t795.length co36) := (kQC BK799.out 1).trans rfl
           have hfz107_0 := kQF BK799.out 0
           have hfz107_1 := kQF BK799.out 1
           go_upto_region 25 with (first | ((with_reducible refine gQc (f := 20) rfl ?_); refine goesL_ (some 64) rfl rfl Try.func20 (by kernel_rfl) rfl #[.agg #[.int .i64 t794, .slice Ao36 t795.length co36], .int .i64 1] rfl (by (try simp only [List.map_toArray, List.map_cons, List.map_nil]); first | done | rfl | (simp only [List.length_drop, List.length_take]; rfl)) ?_; (with_reducible refine (laws_markMatrix.calls kj59 t794 (fun k_ => some k_ = (.slice Ao36 t795.length co36 : Value).ownBlock) (.slice Ao36 t795.length co36) t795 1 t809 t810 w _ ?side1 ?side2 A90.out).mono ?_); (case side1 => repeat (first | (with_reducible first | exact HB.out | apply bQA | apply bQN | apply bQ1 | refine bQS ?_ GE777.out | refine bQS ?_ GE788.out | refine bQS ?_ GE793.out | refine bQS ?_ GE799.out) | exact HB.out)); (case side2 => exact Kd.R_tight rfl HO_800001.out); rintro e w108 ⟨rfl, hy0, hb, hkp⟩; refine ⟨_, rfl, ?_⟩; have n0_ := Aq.mk (Kd.R_mono (ok' := fun k_ => some k_ ≠ (.slice Ao29 t807.length co29 : Value).ownBlock ∧ some k_ ≠ (.slice Ao36 t795.length co36 : Value).ownBlock) (Kd.R_keptB (HO_789001.out) hkp (fun k_ hk_ hs_ => (hk_.2) hs_)) (fun k_ hk_ => ⟨hk_.1.1, hk_.1.2⟩)); have n1_ := Aq.mk (Kd.R_mono (ok' := fun k_ => some k_ ≠ (.slice Ao22 t784.length co22 : Value).ownBlock ∧ some k_ ≠ (.slice Ao36 t795.length co36 : Value).ownBlock) (Kd.R_keptB (HO_794001.out) hkp (fun k_ hk_ hs_ => (hk_.2) hs_)) (fun k_ hk_ => ⟨hk_.1.1, hk_.1.2⟩)); have n2_ := Aq.mk (Kd.R_reok rfl hy0 (fun k_ e_ => HO_800001.out.1 k_ e_)); have n3_ := Aq.mk (blk_kept (by (with_reducible repeat (first | refine kQN ?_ _ | refine kQD ?_ | refine kQA ?_ _)); exact BK777.out) hkp (fun hs_ => (fun e_ => (Kd.R_ne HO_800001.out BK777.out (by decide)) e_) hs_)); have n4_ := Aq.mk (blk_kept (by (with_reducible repeat (first | refine kQN ?_ _ | refine kQD ?_ | refine kQA ?_ _)); exact BK788.out) hkp (fun hs_ => (fun e_ => (Kd.R_ne HO_800001.out BK788.out (by decide)) e_) hs_)); have n5_ := Aq.mk (blk_kept (by (with_reducible repeat (first | refine kQN ?_ _ | refine kQD ?_ | refine kQA ?_ _)); exact BK793.out) hkp (fun hs_ => (fun e_ => (Kd.R_ne HO_800001.out BK793.out (by decide)) e_) hs_)); have n6_ := Aq.mk (blk_kept (by (with_reducible repeat (first | refine kQN ?_ _ | refine kQD ?_ | refine kQA ?_ _)); exact BK799.out) hkp (fun hs_ => (fun e_ => (Kd.R_ne HO_800001.out BK799.out (by decide)) e_) hs_)); have n7_ := Aq.mk (hb); clear HO_789001; clear HO_794001; clear HO_800001; clear BK777; clear BK788; clear BK793; clear BK799; clear HB; have HO_789001 := n0_; have HO_794001 := n1_; have HO_800001 := n2_; have BK777 := n3_; have BK788 := n4_; have BK793 := n5_; have BK799 := n6_; have HB := n7_; clear n0_ n1_ n2_ n3_ n4_ n5_ n6_ n7_; (try clear hb); (try clear hkp); (try clear hy0); have hcz109_0 : w108.cell? ⟨gb799, 0, none⟩ = some (.int .i64 t794) := (kQC BK799.out 0).trans rfl; have hcz109_1 : w108.cell? ⟨gb799, 1, none⟩ = some (.slice Ao36 t795.length co36) := (kQC BK799.out 1).trans rfl; have hfz109_0 := kQF BK799.out 0; have hfz109_1 := kQF BK799.out 1) | ((with_reducible refine gQc (f := 21) rfl ?_); refine goesL_ (some 67) rfl rfl Try.func21 (by kernel_rfl) rfl #[.agg #[.int .i64 t794, .slice Ao36 t810.length co36], .int .i64 1] rfl (by (try simp only [List.map_toArray, List.map_cons, List.map_nil]); first | done | (rw [show t810.length = t795.length from (Kd.R_reads' HO_800001.out).1.symm] <;> rfl) | rfl | (simp only [List.length_drop, List.length_take]; rfl)) ?_; (with_reducible refine (laws_heldMatrix.calls kj59 t794 _ _ t810 1 t811 _ ?side1 ?side2 A91.out).mono ?_); (case side1 => repeat (first | exact (Kd.R_reads' HO_800001.out).2.2 | (with_reducible refine Kd.CqA ?_ _) | (with_reducible refine Kd.CqN ?_ _) | (with_reducible refine Kd.CqD ?_))); (case side2 => rw [show t810.length = t795.length from (Kd.R_reads' HO_800001.out).1.symm]; exact (Kd.R_reads' HO_800001.out).2.1); rintro e w110 ⟨rfl, hb⟩; refine ⟨_, rfl, ?_⟩; have n0_ := Aq.mk (Kd.R_below (by (with_reducible repeat (first | apply Kd.RqA | apply Kd.RqN | apply Kd.RqD)); exact HO_789001.out) hb); have n1_ := Aq.mk (Kd.R_below (by (with_reducible repeat (first | apply Kd.RqA | apply Kd.RqN | apply Kd.RqD)); exact HO_794001.out) hb); have n2_ := Aq.mk (Kd.R_below (by (with_reducible repeat (first | apply Kd.RqA | apply Kd.RqN | apply Kd.RqD)); exact HO_800001.out) hb); have n3_ := Aq.mk (kQB (g := gb777) (o := .cells #[.int .i64 a0_0, .slice A0_1 l0_1.length c0_1] 24 (0, 0)) (by (with_reducible repeat (first | refine kQN ?_ _ | refine kQD ?_ | refine kQA ?_ _)); exact BK777.out) hb); have n4_ := Aq.mk (kQB (g := gb788) (o := .cells #[.int .i64 t783, .slice Ao22 t784.length co22] 26 (0, 0)) (by (with_reducible repeat (first | refine kQN ?_ _ | refine kQD ?_ | refine kQA ?_ _)); exact BK788.out) hb); have n5_ := Aq.mk (kQB (g := gb793) (o := .cells #[.int .i64 t789, .slice Ao29 t807.length co29] 26 (0, 0)) (by (with_reducible repeat (first | refine kQN ?_ _ | refine kQD ?_ | refine kQA ?_ _)); exact BK793.out) hb); have n6_ := Aq.mk (kQB (g := gb799) (o := .cells #[.int .i64 t794, .slice Ao36 t795.length co36] 26 (0, 0)) (by (with_reducible repeat (first | refine kQN ?_ _ | refine kQD ?_ | refine kQA ?_ _)); exact BK799.out) hb); have n7_ := Aq.mk (bQT (by repeat (first | (with_reducible first | exact HB.out | apply bQA | apply bQN | apply bQ1 | refine bQS ?_ GE777.out | refine bQS ?_ GE788.out | refine bQS ?_ GE793.out | refine bQS ?_ GE799.out) | exact HB.out)) hb); clear HO_789001; clear HO_794001; clear HO_800001; clear BK777; clear BK788; clear BK793; clear BK799; clear HB; have HO_789001 := n0_; have HO_794001 := n1_; have HO_800001 := n2_; have BK777 := n3_; have BK788 := n4_; have BK793 := n5_; have BK799 := n6_; have HB := n7_; clear n0_ n1_ n2_ n3_ n4_ n5_ n6_ n7_; (try clear hb); (try clear hb2); (try clear hk); (try clear hi); have hnb111 := NB777_788.out; have hnc111 := NB788_777.out; have hnb112 := NB777_793.out; have hnc112 := NB793_777.out; have hcz113_0 : w110.cell? ⟨gb777, 0, none⟩ = some (.int .i64 a0_0) := (kQC BK777.out 0).trans rfl; have hcz113_1 : w110.cell? ⟨gb777, 1, none⟩ = some (.slice A0_1 l0_1.length c0_1) := (kQC BK777.out 1).trans rfl; have hfz113_0 := kQF BK777.out 0; have hfz113_1 := kQF BK777.out 1) | ((with_reducible refine gQc (f := 17) rfl ?_); refine goesL_ (some 75) rfl rfl Try.func17 (by kernel_rfl) rfl #[.agg #[.int .i64 a0_0, .slice A0_1 l0_1.length c0_1]] rfl (by (try simp only [List.map_toArray, List.map_cons, List.map_nil]); first | done | rfl | (simp only [List.length_drop, List.length_take]; rfl)) ?_; (with_reducible refine (laws_toMatrix.calls kj59 a0_0 _ _ l0_1 t812 t813 _ ?side1 ?side2 A101.out).mono ?_); (case side1 => repeat (first | exact (Kd.C_below HR0_1.out HB.out) | (with_reducible refine Kd.CqA ?_ _) | (with_reducible refine Kd.CqN ?_ _) | (with_reducible refine Kd.CqD ?_))); (case side2 => exact HC0_1.out); rintro e w114 ⟨v814, rfl, ho0, hb⟩; refine ⟨_, rfl, ?_⟩; have n0_ := Aq.mk (Kd.R_elder' (by (with_reducible repeat (first | apply Kd.RqA | apply Kd.RqN | apply Kd.RqD)); exact HO_789001.out) (Kd.R_base ho0) hb); have n1_ := Aq.mk (Kd.R_elder' (by (with_reducible repeat (first | apply Kd.RqA | apply Kd.RqN | apply Kd.RqD)); exact HO_794001.out) (Kd.R_base ho0) hb); have n2_ := Aq.mk (Kd.R_elder' (by (with_reducible repeat (first | apply Kd.RqA | apply Kd.RqN | apply Kd.RqD)); exact HO_800001.out) (Kd.R_base ho0) hb); have n3_ := Aq.mk (Kd.R_lower (Kd.R_new' (Kd.R_new' (Kd.R_new' ho0 (Kd.R_lt (by (with_reducible repeat (first | apply Kd.RqA | apply Kd.RqN | apply Kd.RqD)); exact HO_789001.out))) (Kd.R_lt (by (with_reducible repeat (first | apply Kd.RqA | apply Kd.RqN | apply Kd.RqD)); exact HO_794001.out))) (Kd.R_lt (by (with_reducible repeat (first | apply Kd.RqA | apply Kd.RqN | apply Kd.RqD)); exact HO_800001.out))) (bQZ (by repeat (first | (with_reducible first | exact HB.out | apply bQA | apply bQN | apply bQ1 | refine bQS ?_ GE777.out | refine bQS ?_ GE788.out | refine bQS ?_ GE793.out | refine bQS ?_ GE799.out) | exact HB.out)))); have n4_ := Aq.mk (kQB (g := gb777) (o := .cells #[.int .i64 a0_0, .slice A0_1 l0_1.length c0_1] 24 (0, 0)) (by (with_reducible repeat (first | refine kQN ?_ _ | refine kQD ?_ | refine kQA ?_ _)); exact BK777.out) hb); have n5_ := Aq.mk (kQB (g := gb788) (o := .cells #[.int .i64 t783, .slice Ao22 t784.length co22] 26 (0, 0)) (by (with_reducible repeat (first | refine kQN ?_ _ | refine kQD ?_ | refine kQA ?_ _)); exact BK788.out) hb); have n6_ := Aq.mk (kQB (g := gb793) (o := .cells #[.int .i64 t789, .slice Ao29 t807.length co29] 26 (0, 0)) (by (with_reducible repeat (first | refine kQN ?_ _ | refine kQD ?_ | refine kQA ?_ _)); exact BK793.out) hb); have n7_ := Aq.mk (kQB (g := gb799) (o := .cells #[.int .i64 t794, .slice Ao36 t795.length co36] 26 (0, 0)) (by (with_reducible repeat (first | refine kQN ?_ _ | refine kQD ?_ | refine kQA ?_ _)); exact BK799.out) hb); have n8_ := Aq.mk (bQT (by repeat (first | (with_reducible first | exact HB.out | apply bQA | apply bQN | apply bQ1 | refine bQS ?_ GE777.out | refine bQS ?_ GE788.out | refine bQS ?_ GE793.out | refine bQS ?_ GE799.out) | exact HB.out)) hb); clear HO_789001; clear HO_794001; clear HO_800001; clear BK777; clear BK788; clear BK793; clear BK799; clear HB; have HO_789001 := n0_; have HO_794001 := n1_; have HO_800001 := n2_; have HO815 := n3_; have BK777 := n4_; have BK788 := n5_; have BK793 := n6_; have BK799 := n7_; have HB := n8_; clear n0_ n1_ n2_ n3_ n4_ n5_ n6_ n7_ n8_; (try clear hb); (try clear hb2); (try clear hk); (try clear hi); (try clear ho0); obtain ⟨Ao115, co115, eo115⟩ := Kd.R_slice HO815.out; subst eo115) | ((with_reducible refine gQc (f := 31) rfl ?_); refine goesL_ (some 76) rfl rfl Try.func31 (by kernel_rfl) rfl #[.agg #[.int .i64 t812, .slice Ao115 t813.length co115]] rfl (by (try simp only [List.map_toArray, List.map_cons, List.map_nil]); first | done | rfl | (simp only [List.length_drop, List.length_take]; rfl)) ?_; (with_reducible refine (impl_DualSpace.calls kj59 t812 _ _ t813 t816 t817 t820 _ ?side1 ?side2 A102.out).mono ?_); (case side1 => repeat (first | exact (Kd.R_reads' HO815.out).2.2 | (with_reducible refine Kd.CqA ?_ _) | (with_reducible refine Kd.CqN ?_ _) | (with_reducible refine Kd.CqD ?_))); (case side2 => exact (Kd.R_reads' HO815.out).2.1); rintro e w116 ⟨v818, rfl, ho0, hb⟩; refine ⟨_, rfl, ?_⟩; have n0_ := Aq.mk (Kd.R_elder' (by (with_reducible repeat (first | apply Kd.RqA | apply Kd.RqN | apply Kd.RqD)); exact HO_789001.out) (Kd.R_base ho0) hb); have n1_ := Aq.mk (Kd.R_elder' (by (with_reducible repeat (first | apply Kd.RqA | apply Kd.RqN | apply Kd.RqD)); exact HO_794001.out) (Kd.R_base ho0) hb); have n2_ := Aq.mk (Kd.R_elder' (by (with_reducible repeat (first | apply Kd.RqA | apply Kd.RqN | apply Kd.RqD)); exact HO_800001.out) (Kd.R_base ho0) hb); have n3_ := Aq.mk (Kd.R_elder' (by (with_reducible repeat (first | apply Kd.RqA | apply Kd.RqN | apply Kd.RqD)); exact HO815.out) (Kd.R_base ho0) hb); have n4_ := Aq.mk (Kd.R_lower (Kd.R_new' (Kd.R_new' (Kd.R_new' (Kd.R_new' ho0 (Kd.R_lt (by (with_reducible repeat (first | apply Kd.RqA | apply Kd.RqN | apply Kd.RqD)); exact HO_789001.out))) (Kd.R_lt (by (with_reducible repeat (first | apply Kd.RqA | apply Kd.RqN | apply Kd.RqD)); exact HO_794001.out))) (Kd.R_lt (by (with_reducible repeat (first | apply Kd.RqA | apply Kd.RqN | apply Kd.RqD)); exact HO_800001.out))) (Kd.R_lt (by (with_reducible repeat (first | apply Kd.RqA | apply Kd.RqN | apply Kd.RqD)); exact HO815.out))) (bQZ (by repeat (first | (with_reducible first | exact HB.out | apply bQA | apply bQN | apply bQ1 | refine bQS ?_ GE777.out | refine bQS ?_ GE788.out | refine bQS ?_ GE793.out | refine bQS ?_ GE799.out) | exact HB.out)))); have n5_ := Aq.mk (kQB (g := gb777) (o := .cells #[.int .i64 a0_0, .slice A0_1 l0_1.length c0_1] 24 (0, 0)) (by (with_reducible repeat (first | refine kQN ?_ _ | refine kQD ?_ | refine kQA ?_ _)); exact BK777.out) hb); have n6_ := Aq.mk (kQB (g := gb788) (o := .cells #[.int .i64 t783, .slice Ao22 t784.length co22] 26 (0, 0)) (by (with_reducible repeat (first | refine kQN ?_ _ | refine kQD ?_ | refine kQA ?_ _)); exact BK788.out) hb); have n7_ := Aq.mk (kQB (g := gb793) (o := .cells #[.int .i64 t789, .slice Ao29 t807.length co29] 26 (0, 0)) (by (with_reducible repeat (first | refine kQN ?_ _ | refine kQD ?_ | refine kQA ?_ _)); exact BK793.out) hb); have n8_ := Aq.mk (kQB (g := gb799) (o := .cells #[.int .i64 t794, .slice Ao36 t795.length co36] 26 (0, 0)) (by (with_reducible repeat (first | refine kQN ?_ _ | refine kQD ?_ | refine kQA ?_ _)); exact BK799.out) hb); have n9_ := Aq.mk (bQT (by repeat (first | (with_reducible first | exact HB.out | apply bQA | apply bQN | apply bQ1 | refine bQS ?_ GE777.out | refine bQS ?_ GE788.out | refine bQS ?_ GE793.out | refine bQS ?_ GE799.out) | exact HB.out)) hb); clear HO_789001; clear HO_794001; clear HO_800001; clear HO815; clear BK777; clear BK788; clear BK793; clear BK799; clear HB; have HO_789001 := n0_; have HO_794001 := n1_; have HO_800001 := n2_; have HO815 := n3_; have HO819 := n4_; have BK777 := n5_; have BK788 := n6_; have BK793 := n7_; have BK799 := n8_; have HB := n9_; clear n0_ n1_ n2_ n3_ n4_ n5_ n6_ n7_ n8_ n9_; (try clear hb); (try clear hb2); (try clear hk); (try clear hi); (try clear ho0)) | ((with_reducible refine gQd (N := 12) rfl ?_); refine xQe ?hg (N := 12) ?hd (cs := #[.int .i64 0, .slice none 0 0]) (t := 26) ?hr ?_; (case hd => rfl); (case hg => rfl); (case hr => first | (go_simp; done) | (go_simp; rfl)); intro gb821 hg w117 hbox hb; have n0_ := Aq.mk (Kd.R_below (by (with_reducible repeat (first | apply Kd.RqA | apply Kd.RqN | apply Kd.RqD)); exact HO_789001.out) hb); have n1_ := Aq.mk (Kd.R_below (by (with_reducible repeat (first | apply Kd.RqA | apply Kd.RqN | apply Kd.RqD)); exact HO_794001.out) hb); have n2_ := Aq.mk (Kd.R_below (by (with_reducible repeat (first | apply Kd.RqA | apply Kd.RqN | apply Kd.RqD)); exact HO_800001.out) hb); have n3_ := Aq.mk (Kd.R_below (by (with_reducible repeat (first | apply Kd.RqA | apply Kd.RqN | apply Kd.RqD)); exact HO815.out) hb); have n4_ := Aq.mk (Kd.R_below (by (with_reducible repeat (first | apply Kd.RqA | apply Kd.RqN | apply Kd.RqD)); exact HO819.out) hb); have n5_ := Aq.mk (kQB (g := gb777) (o := .cells #[.int .i64 a0_0, .slice A0_1 l0_1.length c0_1] 24 (0, 0)) (by (with_reducible repeat (first | refine kQN ?_ _ | refine kQD ?_ | refine kQA ?_ _)); exact BK777.out) hb); have n6_ := Aq.mk (kQB (g := gb788) (o := .cells #[.int .i64 t783, .slice Ao22 t784.length co22] 26 (0, 0)) (by (with_reducible repeat (first | refine kQN ?_ _ | refine kQD ?_ | refine kQA ?_ _)); exact BK788.out) hb); have n7_ := Aq.mk (kQB (g := gb793) (o := .cells #[.int .i64 t789, .slice Ao29 t807.length co29] 26 (0, 0)) (by (with_reducible repeat (first | refine kQN ?_ _ | refine kQD ?_ | refine kQA ?_ _)); exact BK793.out) hb); have n8_ := Aq.mk (kQB (g := gb799) (o := .cells #[.int .i64 t794, .slice Ao36 t795.length co36] 26 (0, 0)) (by (with_reducible repeat (first | refine kQN ?_ _ | refine kQD ?_ | refine kQA ?_ _)); exact BK799.out) hb); have n9_ := Aq.mk (bQT (by repeat (first | (with_reducible first | exact HB.out | apply bQA | apply bQN | apply bQ1 | refine bQS ?_ GE777.out | refine bQS ?_ GE788.out | refine bQS ?_ GE793.out | refine bQS ?_ GE799.out) | exact HB.out)) hb); have n10_ := Aq.mk (hbox); have n11_ := Aq.mk ((by rw [hg]; exact (bQZ (by repeat (first | (with_reducible first | exact HB.out | apply bQA | apply bQN | apply bQ1 | refine bQS ?_ GE777.out | refine bQS ?_ GE788.out | refine bQS ?_ GE793.out | refine bQS ?_ GE799.out) | exact HB.out))) : w.heap.size ≤ gb821)); have n12_ := Aq.mk ((by rw [hg]; exact (bQZ (by repeat (first | (with_reducible first | exact HB.out | apply bQA | apply bQN | apply bQ1 | refine bQS ?_ GE777.out | refine bQS ?_ GE788.out | refine bQS ?_ GE793.out | refine bQS ?_ GE799.out) | exact HB.out))) : w.heap.size ≤ gb821)); have n13_ := Aq.mk ((by rw [hg]; exact Nat.ne_of_lt (blk_lt (g := gb777) (o := .cells #[.int .i64 a0_0, .slice A0_1 l0_1.length c0_1] 24 (0, 0)) (by (with_reducible repeat (first | refine kQN ?_ _ | refine kQD ?_ | refine kQA ?_ _)); exact BK777.out)) : gb777 ≠ gb821)); have n14_ := Aq.mk ((by rw [hg]; exact Nat.ne_of_gt (blk_lt (g := gb777) (o := .cells #[.int .i64 a0_0, .slice A0_1 l0_1.length c0_1] 24 (0, 0)) (by (with_reducible repeat (first | refine kQN ?_ _ | refine kQD ?_ | refine kQA ?_ _)); exact BK777.out)) : gb821 ≠ gb777)); have n15_ := Aq.mk ((by rw [hg]; exact Nat.ne_of_lt (blk_lt (g := gb788) (o := .cells #[.int .i64 t783, .slice Ao22 t784.length co22] 26 (0, 0)) (by (with_reducible repeat (first | refine kQN ?_ _ | refine kQD ?_ | refine kQA ?_ _)); exact BK788.out)) : gb788 ≠ gb821)); have n16_ := Aq.mk ((by rw [hg]; exact Nat.ne_of_gt (blk_lt (g := gb788) (o := .cells #[.int .i64 t783, .slice Ao22 t784.length co22] 26 (0, 0)) (by (with_reducible repeat (first | refine kQN ?_ _ | refine kQD ?_ | refine kQA ?_ _)); exact BK788.out)) : gb821 ≠ gb788)); have n17_ := Aq.mk ((by rw [hg]; exact Nat.ne_of_lt (blk_lt (g := gb793) (o := .cells #[.int .i64 t789, .slice Ao29 t807.length co29] 26 (0, 0)) (by (with_reducible repeat (first | refine kQN ?_ _ | refine kQD ?_ | refine kQA ?_ _)); exact BK793.out)) : gb793 ≠ gb821)); have n18_ := Aq.mk ((by rw [hg]; exact Nat.ne_of_gt (blk_lt (g := gb793) (o := .cells #[.int .i64 t789, .slice Ao29 t807.length co29] 26 (0, 0)) (by (with_reducible repeat (first | refine kQN ?_ _ | refine kQD ?_ | refine kQA ?_ _)); exact BK793.out)) : gb821 ≠ gb793)); have n19_ := Aq.mk ((by rw [hg]; exact Nat.ne_of_lt (blk_lt (g := gb799) (o := .cells #[.int .i64 t794, .slice Ao36 t795.length co36] 26 (0, 0)) (by (with_reducible repeat (first | refine kQN ?_ _ | refine kQD ?_ | refine kQA ?_ _)); exact BK799.out)) : gb799 ≠ gb821)); have n20_ := Aq.mk ((by rw [hg]; exact Nat.ne_of_gt (blk_lt (g := gb799) (o := .cells #[.int .i64 t794, .slice Ao36 t795.length co36] 26 (0, 0)) (by (with_reducible repeat (first | refine kQN ?_ _ | refine kQD ?_ | refine kQA ?_ _)); exact BK799.out)) : gb821 ≠ gb799)); clear HO_789001; clear HO_794001; clear HO_800001; clear HO815; clear HO819; clear BK777; clear BK788; clear BK793; clear BK799; clear HB; have HO_789001 := n0_; have HO_794001 := n1_; have HO_800001 := n2_; have HO815 := n3_; have HO819 := n4_; have BK777 := n5_; have BK788 := n6_; have BK793 := n7_; have BK799 := n8_; have HB := n9_; have BK821 := n10_; have GW821 := n11_; have GE821 := n12_; have NB777_821 := n13_; have NB821_777 := n14_; have NB788_821 := n15_; have NB821_788 := n16_; have NB793_821 := n17_; have NB821_793 := n18_; have NB799_821 := n19_; have NB821_799 := n20_; clear n0_ n1_ n2_ n3_ n4_ n5_ n6_ n7_ n8_ n9_ n10_ n11_ n12_ n13_ n14_ n15_ n16_ n17_ n18_ n19_ n20_; clear hb hbox hg; have hnb118 := NB821_777.out; have hnc118 := NB777_821.out; have hnb119 := NB821_788.out; have hnc119 := NB788_821.out; have hnb120 := NB821_793.out; have hnc120 := NB793_821.out; have hnb121 := NB821_799.out; have hnc121 := NB799_821.out; have hcz122_0 : w117.cell? ⟨gb821, 0, none⟩ = some (.int .i64 0) := (kQC BK821.out 0).trans rfl; have hcz122_1 : w117.cell? ⟨gb821, 1, none⟩ = some (.slice none 0 0) := (kQC BK821.out 1).trans rfl; have hfz122_0 := kQF BK821.out 0; have hfz122_1 := kQF BK821.out 1; obtain ⟨Ao123, co123, eo123⟩ := Kd.R_slice HO819.out; subst eo123))
           (try simp only [Act.put, qSa, qSb, qSc])
           go_cut [87] (fun v87 wc => ∃ (kq : Nat) (x87_102 : Bool), v87 = .bool x87_102 ∧ Aq (laws_FnExactDualSpace.j2 kq t809 x87_102 t794 t810 = some r) ∧ Aq (kq ≤ kj59) ∧ Aq (Kd.R (Kd.int .i64) 2 wc w.heap.size (fun k_ => some k_ ≠ ((.slice Ao29 t807.length co29) : Value).ownBlock ∧ some k_ ≠ ((.slice Ao36 t795.length co36) : Value).ownBlock ∧ some k_ ≠ ((.slice Ao123 t817.length co123) : Value).ownBlock) (.slice Ao22 t784.length co22) t784) ∧ Aq (Kd.R (Kd.int .i64) 2 wc w.heap.size (fun k_ => some k_ ≠ ((.slice Ao22 t784.length co22) : Value).ownBlock ∧ some k_ ≠ ((.slice Ao36 t795.length co36) : Value).ownBlock ∧ some k_ ≠ ((.slice Ao123 t817.length co123) : Value).ownBlock) (.slice Ao29 t807.length co29) t807) ∧ Aq (Kd.R (Kd.int .i64) 2 wc w.heap.size (fun k_ => some k_ ≠ ((.slice Ao22 t784.length co22) : Value).ownBlock ∧ some k_ ≠ ((.slice Ao29 t807.length co29) : Value).ownBlock ∧ some k_ ≠ ((.slice Ao123 t817.length co123) : Value).ownBlock) (.slice Ao36 t795.length co36) t810) ∧ Aq (Kd.R (Kd.int .i64) 2 wc w.heap.size (fun k_ => some k_ ≠ ((.slice Ao22 t784.length co22) : Value).ownBlock ∧ some k_ ≠ ((.slice Ao29 t807.length co29) : Value).ownBlock ∧ some k_ ≠ ((.slice Ao36 t795.length co36) : Value).ownBlock) (.slice Ao123 t817.length co123) t817) ∧ Aq (wc.heap[gb777]? = some (.cells #[.int .i64 a0_0, (.slice A0_1 l0_1.length c0_1)] 24 (0, 0))) ∧ Aq (wc.heap[gb788]? = some (.cells #[.int .i64 t783, (.slice Ao22 t784.length co22)] 26 (0, 0))) ∧ Aq (wc.heap[gb793]? = some (.cells #[.int .i64 t789, (.slice Ao29 t807.length co29)] 26 (0, 0))) ∧ Aq (wc.heap[gb799]? = some (.cells #[.int .i64 t794, (.slice Ao36 t795.length co36)] 26 (0, 0))) ∧ Aq (wc.heap[gb821]? = some (.cells #[.int .i64 t816, (.slice Ao123 t817.length co123)] 26 (0, 0))) ∧ Aq (Below w.heap.size w wc))
           case first =>
            have H := HC103.out
            clear HC103
            replace H := Option.bind_eq_some_iff.mp H
            obtain ⟨t822, A1240, H⟩ := H
            replace H : (if t822 = true then (laws_FnExactDualSpace.j2 kj59 t809 (t820 != t787) t794 t810) else (laws_FnExactDualSpace.j2 kj59 t809 true t794 t810)) = some r := H
            have A124 := Aq.mk A1240
            clear A1240
            by_cases c125 : t822 = true
            ·subst c125
             have H1 : (laws_FnExactDualSpace.j2 kj59 t809 (t820 != t787) t794 t810) = some r := by rw [if_pos rfl] at H; exact H
             clear H
             have H := H1
             clear H1
             have H' := Aq.mk H
             clear H
             have hnb126 := NB821_777.out
             have hnc126 := NB777_821.out
             have hnb127 := NB821_788.out
             have hnc127 := NB788_821.out
             have hnb128 := NB821_793.out
             have hnc128 := NB793_821.out
             have hnb129 := NB821_799.out
             have hnc129 := NB799_821.out
             have hcz130_0 : w117.cell? ⟨gb821, 0, none⟩ = some (.int .i64 0) := (kQC BK821.out 0).trans rfl
             have hcz130_1 : w117.cell? ⟨gb821, 1, none⟩ = some (.slice none 0 0) := (kQC BK821.out 1).trans rfl
             have hfz130_0 := kQF BK821.out 0
             have hfz130_1 := kQF BK821.out 1
             have hnb131 := NB788_777.out
             have hnc131 := NB777_788.out
             have hnb132 := NB788_793.out
             have hnc132 := NB793_788.out
             have hnb133 := NB788_799.out
             have hnc133 := NB799_788.out
             have hcz134_0 : w117.cell? ⟨gb788, 0, none⟩ = some (.int .i64 t783) := (kQC BK788.out 0).trans rfl
             have hcz134_1 : w117.cell? ⟨gb788, 1, none⟩ = some (.slice Ao22 t784.length co22) := (kQC BK788.out 1).trans rfl
             have hfz134_0 := kQF BK788.out 0
             have hfz134_1 := kQF BK788.out 1
             go_wp2_with (first | ((with_reducible refine gQc (f := 19) rfl ?_); refine goesL_ (some 81) rfl rfl Try.func19 (by kernel_rfl) rfl #[.agg #[.int .i64 t816, .slice Ao123 t817.length co123], .agg #[.int .i64 t783, .slice Ao22 t784.length co22]] rfl (by (try simp only [List.map_toArray, List.map_cons, List.map_nil]); first | done | rfl | (simp only [List.length_drop, List.length_take]; rfl)) ?_; (with_reducible refine (laws_eqMatrix.calls kj59 t816 _ _ t817 t783 _ _ t784 true _ ?side1 ?side2 ?side3 ?side4 A124.out).mono ?_); (case side1 => refine (Kd.R_reads' (e := 2) (base := w.heap.size) (ok := fun k_ => ((((True ∧ some k_ ≠ (.slice Ao22 t784.length co22 : Value).ownBlock) ∧ some k_ ≠ (.slice Ao29 t807.length co29 : Value).ownBlock) ∧ some k_ ≠ (.slice Ao36 t795.length co36 : Value).ownBlock) ∧ some k_ ≠ (.slice Ao115 t813.length co115 : Value).ownBlock)) (n := t817.length) (c := co123) ?_).2.2; exact (by (with_reducible repeat (first | apply Kd.RqA | apply Kd.RqN | apply Kd.RqD)); exact (Kd.R_mono (Kd.R_far (p := ⟨gb821, 1, none⟩) (Kd.R_far (p := ⟨gb821, 0, none⟩) (Kd.R_types HO819.out BK821.out (by decide)) (fun _ hk => hk.2) (.int .i64 t816)) (fun _ hk => hk.2) (.slice Ao123 t817.length co123)) (fun _ h_ => h_.1)))); (case side2 => exact (Kd.R_reads' HO819.out).2.1); (case side3 => refine (Kd.R_reads' (e := 2) (base := w.heap.size) (ok := fun k_ => (((some k_ ≠ (.slice Ao29 t807.length co29 : Value).ownBlock ∧ some k_ ≠ (.slice Ao36 t795.length co36 : Value).ownBlock) ∧ some k_ ≠ (.slice Ao115 t813.length co115 : Value).ownBlock) ∧ some k_ ≠ (.slice Ao123 t817.length co123 : Value).ownBlock)) (n := t784.length) (c := co22) ?_).2.2; exact (by (with_reducible repeat (first | apply Kd.RqA | apply Kd.RqN | apply Kd.RqD)); exact (Kd.R_mono (Kd.R_far (p := ⟨gb821, 1, none⟩) (Kd.R_far (p := ⟨gb821, 0, none⟩) (Kd.R_types HO_789001.out BK821.out (by decide)) (fun _ hk => hk.2) (.int .i64 t816)) (fun _ hk => hk.2) (.slice Ao123 t817.length co123)) (fun _ h_ => h_.1)))); (case side4 => exact (Kd.R_reads' HO_789001.out).2.1); rintro e w135 ⟨rfl, hb⟩; refine ⟨_, rfl, ?_⟩; have n0_ := Aq.mk (Kd.R_below (by (with_reducible repeat (first | apply Kd.RqA | apply Kd.RqN | apply Kd.RqD)); exact (Kd.R_mono (Kd.R_far (p := ⟨gb821, 1, none⟩) (Kd.R_far (p := ⟨gb821, 0, none⟩) (Kd.R_types HO_789001.out BK821.out (by decide)) (fun _ hk => hk.2) (.int .i64 t816)) (fun _ hk => hk.2) (.slice Ao123 t817.length co123)) (fun _ h_ => h_.1))) hb); have n1_ := Aq.mk (Kd.R_below (by (with_reducible repeat (first | apply Kd.RqA | apply Kd.RqN | apply Kd.RqD)); exact (Kd.R_mono (Kd.R_far (p := ⟨gb821, 1, none⟩) (Kd.R_far (p := ⟨gb821, 0, none⟩) (Kd.R_types HO_794001.out BK821.out (by decide)) (fun _ hk => hk.2) (.int .i64 t816)) (fun _ hk => hk.2) (.slice Ao123 t817.length co123)) (fun _ h_ => h_.1))) hb); have n2_ := Aq.mk (Kd.R_below (by (with_reducible repeat (first | apply Kd.RqA | apply Kd.RqN | apply Kd.RqD)); exact (Kd.R_mono (Kd.R_far (p := ⟨gb821, 1, none⟩) (Kd.R_far (p := ⟨gb821, 0, none⟩) (Kd.R_types HO_800001.out BK821.out (by decide)) (fun _ hk => hk.2) (.int .i64 t816)) (fun _ hk => hk.2) (.slice Ao123 t817.length co123)) (fun _ h_ => h_.1))) hb); have n3_ := Aq.mk (Kd.R_below (by (with_reducible repeat (first | apply Kd.RqA | apply Kd.RqN | apply Kd.RqD)); exact (Kd.R_mono (Kd.R_far (p := ⟨gb821, 1, none⟩) (Kd.R_far (p := ⟨gb821, 0, none⟩) (Kd.R_types HO815.out BK821.out (by decide)) (fun _ hk => hk.2) (.int .i64 t816)) (fun _ hk => hk.2) (.slice Ao123 t817.length co123)) (fun _ h_ => h_.1))) hb); have n4_ := Aq.mk (Kd.R_below (by (with_reducible repeat (first | apply Kd.RqA | apply Kd.RqN | apply Kd.RqD)); exact (Kd.R_mono (Kd.R_far (p := ⟨gb821, 1, none⟩) (Kd.R_far (p := ⟨gb821, 0, none⟩) (Kd.R_types HO819.out BK821.out (by decide)) (fun _ hk => hk.2) (.int .i64 t816)) (fun _ hk => hk.2) (.slice Ao123 t817.length co123)) (fun _ h_ => h_.1))) hb); have n5_ := Aq.mk (kQB (g := gb777) (o := .cells #[.int .i64 a0_0, .slice A0_1 l0_1.length c0_1] 24 (0, 0)) (by (with_reducible repeat (first | refine kQN ?_ _ | refine kQD ?_ | refine kQA ?_ _)); refine kQR ?_ NB777_821.out _; (with_reducible repeat (first | refine kQN ?_ _ | refine kQD ?_ | refine kQA ?_ _)); refine kQR ?_ NB777_821.out _; (with_reducible repeat (first | refine kQN ?_ _ | refine kQD ?_ | refine kQA ?_ _)); exact BK777.out) hb); have n6_ := Aq.mk (kQB (g := gb788) (o := .cells #[.int .i64 t783, .slice Ao22 t784.length co22] 26 (0, 0)) (by (with_reducible repeat (first | refine kQN ?_ _ | refine kQD ?_ | refine kQA ?_ _)); refine kQR ?_ NB788_821.out _; (with_reducible repeat (first | refine kQN ?_ _ | refine kQD ?_ | refine kQA ?_ _)); refine kQR ?_ NB788_821.out _; (with_reducible repeat (first | refine kQN ?_ _ | refine kQD ?_ | refine kQA ?_ _)); exact BK788.out) hb); have n7_ := Aq.mk (kQB (g := gb793) (o := .cells #[.int .i64 t789, .slice Ao29 t807.length co29] 26 (0, 0)) (by (with_reducible repeat (first | refine kQN ?_ _ | refine kQD ?_ | refine kQA ?_ _)); refine kQR ?_ NB793_821.out _; (with_reducible repeat (first | refine kQN ?_ _ | refine kQD ?_ | refine kQA ?_ _)); refine kQR ?_ NB793_821.out _; (with_reducible repeat (first | refine kQN ?_ _ | refine kQD ?_ | refine kQA ?_ _)); exact BK793.out) hb); have n8_ := Aq.mk (kQB (g := gb799) (o := .cells #[.int .i64 t794, .slice Ao36 t795.length co36] 26 (0, 0)) (by (with_reducible repeat (first | refine kQN ?_ _ | refine kQD ?_ | refine kQA ?_ _)); refine kQR ?_ NB799_821.out _; (with_reducible repeat (first | refine kQN ?_ _ | refine kQD ?_ | refine kQA ?_ _)); refine kQR ?_ NB799_821.out _; (with_reducible repeat (first | refine kQN ?_ _ | refine kQD ?_ | refine kQA ?_ _)); exact BK799.out) hb); have n9_ := Aq.mk (kQB (g := gb821) (o := .cells #[.int .i64 t816, .slice Ao123 t817.length co123] 26 (0, 0)) (by (with_reducible repeat (first | refine kQN ?_ _ | refine kQD ?_ | refine kQA ?_ _)); refine kQP (cs := #[.int .i64 t816, .slice none 0 0]) ?_ 1 _ rfl; (with_reducible repeat (first | refine kQN ?_ _ | refine kQD ?_ | refine kQA ?_ _)); refine kQP (cs := #[.int .i64 0, .slice none 0 0]) ?_ 0 _ rfl; (with_reducible repeat (first | refine kQN ?_ _ | refine kQD ?_ | refine kQA ?_ _)); exact BK821.out) hb); have n10_ := Aq.mk (bQT (by repeat (first | (with_reducible first | exact HB.out | apply bQA | apply bQN | apply bQ1 | refine bQS ?_ GE777.out | refine bQS ?_ GE788.out | refine bQS ?_ GE793.out | refine bQS ?_ GE799.out | refine bQS ?_ GE821.out) | exact HB.out)) hb); clear HO_789001; clear HO_794001; clear HO_800001; clear HO815; clear HO819; clear BK777; clear BK788; clear BK793; clear BK799; clear BK821; clear HB; have HO_789001 := n0_; have HO_794001 := n1_; have HO_800001 := n2_; have HO815 := n3_; have HO819 := n4_; have BK777 := n5_; have BK788 := n6_; have BK793 := n7_; have BK799 := n8_; have BK821 := n9_; have HB := n10_; clear n0_ n1_ n2_ n3_ n4_ n5_ n6_ n7_ n8_ n9_ n10_; (try clear hb); (try clear hb2); (try clear hk); (try clear hi)))
             go_meet
             case rel => exact ⟨_, ((t820 != t787)), (by first | rfl | (simp; done) | (simp [*]; done)), H', ⟨by have := HJ10.out; have := HJ59.out; first | omega | exact Nat.le_refl _⟩, ⟨by (try simp only [hl794001_59]); (with_reducible repeat (first | apply Kd.RqA | apply Kd.RqN | apply Kd.RqD)); exact Kd.R_mono HO_789001.out (fun _ hk => ⟨hk.1.1.1, ⟨hk.1.1.2, hk.2⟩⟩)⟩, ⟨by (try simp only [hl794001_59]); (with_reducible repeat (first | apply Kd.RqA | apply Kd.RqN | apply Kd.RqD)); exact Kd.R_mono HO_794001.out (fun _ hk => ⟨hk.1.1.1, ⟨hk.1.1.2, hk.2⟩⟩)⟩, ⟨by (try simp only [hl794001_59]); (with_reducible repeat (first | apply Kd.RqA | apply Kd.RqN | apply Kd.RqD)); exact Kd.R_mono HO_800001.out (fun _ hk => ⟨hk.1.1.1, ⟨hk.1.1.2, hk.2⟩⟩)⟩, ⟨by (try simp only [hl794001_59]); (with_reducible repeat (first | apply Kd.RqA | apply Kd.RqN | apply Kd.RqD)); exact Kd.R_mono HO819.out (fun _ hk => ⟨hk.1.1.1.2, ⟨hk.1.1.2, hk.1.2⟩⟩)⟩, ⟨by (try simp only [hl794001_59]); (with_reducible repeat (first | refine kQN ?_ _ | refine kQD ?_ | refine kQA ?_ _)); exact BK777.out⟩, ⟨by (try simp only [hl794001_59]); (with_reducible repeat (first | refine kQN ?_ _ | refine kQD ?_ | refine kQA ?_ _)); exact BK788.out⟩, ⟨by (try simp only [hl794001_59]); (with_reducible repeat (first | refine kQN ?_ _ | refine kQD ?_ | refine kQA ?_ _)); exact BK793.out⟩, ⟨by (try simp only [hl794001_59]); (with_reducible repeat (first | refine kQN ?_ _ | refine kQD ?_ | refine kQA ?_ _)); exact BK799.out⟩, ⟨by (try simp only [hl794001_59]); (with_reducible repeat (first | refine kQN ?_ _ | refine kQD ?_ | refine kQA ?_ _)); exact BK821.out⟩, ⟨by repeat (first | (with_reducible first | exact HB.out | apply bQA | apply bQN | apply bQ1 | refine bQS ?_ GE777.out | refine bQS ?_ GE788.out | refine bQS ?_ GE793.out | refine bQS ?_ GE799.out | refine bQS ?_ GE821.out) | exact HB.out)⟩⟩
            ·replace c125 := Bool.eq_false_iff.mpr c125
             subst c125
             have H1 : (laws_FnExactDualSpace.j2 kj59 t809 true t794 t810) = some r := by rw [if_neg (show ¬ (false = true) by decide)] at H; exact H
             clear H
             have H := H1
             clear H1
             have H' := Aq.mk H
             clear H
             have hnb136 := NB821_777.out
             have hnc136 := NB777_821.out
             have hnb137 := NB821_788.out
             have hnc137 := NB788_821.out
             have hnb138 := NB821_793.out
             have hnc138 := NB793_821.out
             have hnb139 := NB821_799.out
             have hnc139 := NB799_821.out
             have hcz140_0 : w117.cell? ⟨gb821, 0, none⟩ = some (.int .i64 0) := (kQC BK821.out 0).trans rfl
             have hcz140_1 : w117.cell? ⟨gb821, 1, none⟩ = some (.slice none 0 0) := (kQC BK821.out 1).trans rfl
             have hfz140_0 := kQF BK821.out 0
             have hfz140_1 := kQF BK821.out 1
             have hnb141 := NB788_777.out
             have hnc141 := NB777_788.out
             have hnb142 := NB788_793.out
             have hnc142 := NB793_788.out
             have hnb143 := NB788_799.out
             have hnc143 := NB799_788.out
             have hcz144_0 : w117.cell? ⟨gb788, 0, none⟩ = some (.int .i64 t783) := (kQC BK788.out 0).trans rfl
             have hcz144_1 : w117.cell? ⟨gb788, 1, none⟩ = some (.slice Ao22 t784.length co22) := (kQC BK788.out 1).trans rfl
             have hfz144_0 := kQF BK788.out 0
             have hfz144_1 := kQF BK788.out 1
             go_wp2_with (first | ((with_reducible refine gQc (f := 19) rfl ?_); refine goesL_ (some 81) rfl rfl Try.func19 (by kernel_rfl) rfl #[.agg #[.int .i64 t816, .slice Ao123 t817.length co123], .agg #[.int .i64 t783, .slice Ao22 t784.length co22]] rfl (by (try simp only [List.map_toArray, List.map_cons, List.map_nil]); first | done | rfl | (simp only [List.length_drop, List.length_take]; rfl)) ?_; (with_reducible refine (laws_eqMatrix.calls kj59 t816 _ _ t817 t783 _ _ t784 false _ ?side1 ?side2 ?side3 ?side4 A124.out).mono ?_); (case side1 => refine (Kd.R_reads' (e := 2) (base := w.heap.size) (ok := fun k_ => ((((True ∧ some k_ ≠ (.slice Ao22 t784.length co22 : Value).ownBlock) ∧ some k_ ≠ (.slice Ao29 t807.length co29 : Value).ownBlock) ∧ some k_ ≠ (.slice Ao36 t795.length co36 : Value).ownBlock) ∧ some k_ ≠ (.slice Ao115 t813.length co115 : Value).ownBlock)) (n := t817.length) (c := co123) ?_).2.2; exact (by (with_reducible repeat (first | apply Kd.RqA | apply Kd.RqN | apply Kd.RqD)); exact (Kd.R_mono (Kd.R_far (p := ⟨gb821, 1, none⟩) (Kd.R_far (p := ⟨gb821, 0, none⟩) (Kd.R_types HO819.out BK821.out (by decide)) (fun _ hk => hk.2) (.int .i64 t816)) (fun _ hk => hk.2) (.slice Ao123 t817.length co123)) (fun _ h_ => h_.1)))); (case side2 => exact (Kd.R_reads' HO819.out).2.1); (case side3 => refine (Kd.R_reads' (e := 2) (base := w.heap.size) (ok := fun k_ => (((some k_ ≠ (.slice Ao29 t807.length co29 : Value).ownBlock ∧ some k_ ≠ (.slice Ao36 t795.length co36 : Value).ownBlock) ∧ some k_ ≠ (.slice Ao115 t813.length co115 : Value).ownBlock) ∧ some k_ ≠ (.slice Ao123 t817.length co123 : Value).ownBlock)) (n := t784.length) (c := co22) ?_).2.2; exact (by (with_reducible repeat (first | apply Kd.RqA | apply Kd.RqN | apply Kd.RqD)); exact (Kd.R_mono (Kd.R_far (p := ⟨gb821, 1, none⟩) (Kd.R_far (p := ⟨gb821, 0, none⟩) (Kd.R_types HO_789001.out BK821.out (by decide)) (fun _ hk => hk.2) (.int .i64 t816)) (fun _ hk => hk.2) (.slice Ao123 t817.length co123)) (fun _ h_ => h_.1)))); (case side4 => exact (Kd.R_reads' HO_789001.out).2.1); rintro e w145 ⟨rfl, hb⟩; refine ⟨_, rfl, ?_⟩; have n0_ := Aq.mk (Kd.R_below (by (with_reducible repeat (first | apply Kd.RqA | apply Kd.RqN | apply Kd.RqD)); exact (Kd.R_mono (Kd.R_far (p := ⟨gb821, 1, none⟩) (Kd.R_far (p := ⟨gb821, 0, none⟩) (Kd.R_types HO_789001.out BK821.out (by decide)) (fun _ hk => hk.2) (.int .i64 t816)) (fun _ hk => hk.2) (.slice Ao123 t817.length co123)) (fun _ h_ => h_.1))) hb); have n1_ := Aq.mk (Kd.R_below (by (with_reducible repeat (first | apply Kd.RqA | apply Kd.RqN | apply Kd.RqD)); exact (Kd.R_mono (Kd.R_far (p := ⟨gb821, 1, none⟩) (Kd.R_far (p := ⟨gb821, 0, none⟩) (Kd.R_types HO_794001.out BK821.out (by decide)) (fun _ hk => hk.2) (.int .i64 t816)) (fun _ hk => hk.2) (.slice Ao123 t817.length co123)) (fun _ h_ => h_.1))) hb); have n2_ := Aq.mk (Kd.R_below (by (with_reducible repeat (first | apply Kd.RqA | apply Kd.RqN | apply Kd.RqD)); exact (Kd.R_mono (Kd.R_far (p := ⟨gb821, 1, none⟩) (Kd.R_far (p := ⟨gb821, 0, none⟩) (Kd.R_types HO_800001.out BK821.out (by decide)) (fun _ hk => hk.2) (.int .i64 t816)) (fun _ hk => hk.2) (.slice Ao123 t817.length co123)) (fun _ h_ => h_.1))) hb); have n3_ := Aq.mk (Kd.R_below (by (with_reducible repeat (first | apply Kd.RqA | apply Kd.RqN | apply Kd.RqD)); exact (Kd.R_mono (Kd.R_far (p := ⟨gb821, 1, none⟩) (Kd.R_far (p := ⟨gb821, 0, none⟩) (Kd.R_types HO815.out BK821.out (by decide)) (fun _ hk => hk.2) (.int .i64 t816)) (fun _ hk => hk.2) (.slice Ao123 t817.length co123)) (fun _ h_ => h_.1))) hb); have n4_ := Aq.mk (Kd.R_below (by (with_reducible repeat (first | apply Kd.RqA | apply Kd.RqN | apply Kd.RqD)); exact (Kd.R_mono (Kd.R_far (p := ⟨gb821, 1, none⟩) (Kd.R_far (p := ⟨gb821, 0, none⟩) (Kd.R_types HO819.out BK821.out (by decide)) (fun _ hk => hk.2) (.int .i64 t816)) (fun _ hk => hk.2) (.slice Ao123 t817.length co123)) (fun _ h_ => h_.1))) hb); have n5_ := Aq.mk (kQB (g := gb777) (o := .cells #[.int .i64 a0_0, .slice A0_1 l0_1.length c0_1] 24 (0, 0)) (by (with_reducible repeat (first | refine kQN ?_ _ | refine kQD ?_ | refine kQA ?_ _)); refine kQR ?_ NB777_821.out _; (with_reducible repeat (first | refine kQN ?_ _ | refine kQD ?_ | refine kQA ?_ _)); refine kQR ?_ NB777_821.out _; (with_reducible repeat (first | refine kQN ?_ _ | refine kQD ?_ | refine kQA ?_ _)); exact BK777.out) hb); have n6_ := Aq.mk (kQB (g := gb788) (o := .cells #[.int .i64 t783, .slice Ao22 t784.length co22] 26 (0, 0)) (by (with_reducible repeat (first | refine kQN ?_ _ | refine kQD ?_ | refine kQA ?_ _)); refine kQR ?_ NB788_821.out _; (with_reducible repeat (first | refine kQN ?_ _ | refine kQD ?_ | refine kQA ?_ _)); refine kQR ?_ NB788_821.out _; (with_reducible repeat (first | refine kQN ?_ _ | refine kQD ?_ | refine kQA ?_ _)); exact BK788.out) hb); have n7_ := Aq.mk (kQB (g := gb793) (o := .cells #[.int .i64 t789, .slice Ao29 t807.length co29] 26 (0, 0)) (by (with_reducible repeat (first | refine kQN ?_ _ | refine kQD ?_ | refine kQA ?_ _)); refine kQR ?_ NB793_821.out _; (with_reducible repeat (first | refine kQN ?_ _ | refine kQD ?_ | refine kQA ?_ _)); refine kQR ?_ NB793_821.out _; (with_reducible repeat (first | refine kQN ?_ _ | refine kQD ?_ | refine kQA ?_ _)); exact BK793.out) hb); have n8_ := Aq.mk (kQB (g := gb799) (o := .cells #[.int .i64 t794, .slice Ao36 t795.length co36] 26 (0, 0)) (by (with_reducible repeat (first | refine kQN ?_ _ | refine kQD ?_ | refine kQA ?_ _)); refine kQR ?_ NB799_821.out _; (with_reducible repeat (first | refine kQN ?_ _ | refine kQD ?_ | refine kQA ?_ _)); refine kQR ?_ NB799_821.out _; (with_reducible repeat (first | refine kQN ?_ _ | refine kQD ?_ | refine kQA ?_ _)); exact BK799.out) hb); have n9_ := Aq.mk (kQB (g := gb821) (o := .cells #[.int .i64 t816, .slice Ao123 t817.length co123] 26 (0, 0)) (by (with_reducible repeat (first | refine kQN ?_ _ | refine kQD ?_ | refine kQA ?_ _)); refine kQP (cs := #[.int .i64 t816, .slice none 0 0]) ?_ 1 _ rfl; (with_reducible repeat (first | refine kQN ?_ _ | refine kQD ?_ | refine kQA ?_ _)); refine kQP (cs := #[.int .i64 0, .slice none 0 0]) ?_ 0 _ rfl; (with_reducible repeat (first | refine kQN ?_ _ | refine kQD ?_ | refine kQA ?_ _)); exact BK821.out) hb); have n10_ := Aq.mk (bQT (by repeat (first | (with_reducible first | exact HB.out | apply bQA | apply bQN | apply bQ1 | refine bQS ?_ GE777.out | refine bQS ?_ GE788.out | refine bQS ?_ GE793.out | refine bQS ?_ GE799.out | refine bQS ?_ GE821.out) | exact HB.out)) hb); clear HO_789001; clear HO_794001; clear HO_800001; clear HO815; clear HO819; clear BK777; clear BK788; clear BK793; clear BK799; clear BK821; clear HB; have HO_789001 := n0_; have HO_794001 := n1_; have HO_800001 := n2_; have HO815 := n3_; have HO819 := n4_; have BK777 := n5_; have BK788 := n6_; have BK793 := n7_; have BK799 := n8_; have BK821 := n9_; have HB := n10_; clear n0_ n1_ n2_ n3_ n4_ n5_ n6_ n7_ n8_ n9_ n10_; (try clear hb); (try clear hb2); (try clear hk); (try clear hi)))
             go_meet
             case rel => exact ⟨_, (true), (by first | rfl | (simp; done) | (simp [*]; done)), H', ⟨by have := HJ10.out; have := HJ59.out; first | omega | exact Nat.le_refl _⟩, ⟨by (try simp only [hl794001_59]); (with_reducible repeat (first | apply Kd.RqA | apply Kd.RqN | apply Kd.RqD)); exact Kd.R_mono HO_789001.out (fun _ hk => ⟨hk.1.1.1, ⟨hk.1.1.2, hk.2⟩⟩)⟩, ⟨by (try simp only [hl794001_59]); (with_reducible repeat (first | apply Kd.RqA | apply Kd.RqN | apply Kd.RqD)); exact Kd.R_mono HO_794001.out (fun _ hk => ⟨hk.1.1.1, ⟨hk.1.1.2, hk.2⟩⟩)⟩, ⟨by (try simp only [hl794001_59]); (with_reducible repeat (first | apply Kd.RqA | apply Kd.RqN | apply Kd.RqD)); exact Kd.R_mono HO_800001.out (fun _ hk => ⟨hk.1.1.1, ⟨hk.1.1.2, hk.2⟩⟩)⟩, ⟨by (try simp only [hl794001_59]); (with_reducible repeat (first | apply Kd.RqA | apply Kd.RqN | apply Kd.RqD)); exact Kd.R_mono HO819.out (fun _ hk => ⟨hk.1.1.1.2, ⟨hk.1.1.2, hk.1.2⟩⟩)⟩, ⟨by (try simp only [hl794001_59]); (with_reducible repeat (first | refine kQN ?_ _ | refine kQD ?_ | refine kQA ?_ _)); exact BK777.out⟩, ⟨by (try simp only [hl794001_59]); (with_reducible repeat (first | refine kQN ?_ _ | refine kQD ?_ | refine kQA ?_ _)); exact BK788.out⟩, ⟨by (try simp only [hl794001_59]); (with_reducible repeat (first | refine kQN ?_ _ | refine kQD ?_ | refine kQA ?_ _)); exact BK793.out⟩, ⟨by (try simp only [hl794001_59]); (with_reducible repeat (first | refine kQN ?_ _ | refine kQD ?_ | refine kQA ?_ _)); exact BK799.out⟩, ⟨by (try simp only [hl794001_59]); (with_reducible repeat (first | refine kQN ?_ _ | refine kQD ?_ | refine kQA ?_ _)); exact BK821.out⟩, ⟨by repeat (first | (with_reducible first | exact HB.out | apply bQA | apply bQN | apply bQ1 | refine bQS ?_ GE777.out | refine bQS ?_ GE788.out | refine bQS ?_ GE793.out | refine bQS ?_ GE799.out | refine bQS ?_ GE821.out) | exact HB.out)⟩⟩
           case rest =>
            clear HC103
            try clear c1
            try clear c2
            try clear p2
            try clear c3
            try clear c3b0
            try clear c4
            try clear c5
            try clear c6
            try clear c7
            try clear c8
            try clear c9
            try clear c10
            try clear c11
            try clear c12
            try clear c13
            try clear c14
            try clear c15
            try clear c17
            try clear c19
            try clear c20
            try clear c21
            try clear c26
            try clear c27
            try clear c31
            try clear c32
            try clear c33
            try clear c34
            try clear c38
            try clear c39
            try clear c40
            try clear c41
            try clear c43
            try clear c44
            try clear c47
            try clear c48
            try clear c49
            try clear c51
            try clear c52
            try clear c55
            try clear c58
            try clear c65
            try clear c66
            try clear c67
            try clear c70
            try clear c70b0
            try clear c72
            try clear c73
            try clear c74
            try clear c75
            try clear c77
            try clear c78
            try clear c81
            try clear c82
            try clear c83
            try clear c85
            try clear c86
            try clear c89
            try clear c92
            try clear c92b0
            try clear c93
            try clear c94
            try clear c95
            try clear c100
            try clear c100b0
            try clear c100b1
            try clear c104
            try clear c105
            try clear c106
            try clear c111
            try clear c112
            try clear c118
            try clear c119
            try clear c120
            try clear c121
            try clear c125
            try clear c126
            try clear c127
            try clear c128
            try clear c129
            try clear c131
            try clear c132
            try clear c133
            try clear c136
            try clear c137
            try clear c138
            try clear c139
            try clear c141
            try clear c142
            try clear c143
            try clear hcz107_0
            try clear hcz107_1
            try clear hcz109_0
            try clear hcz109_1
            try clear hcz113_0
            try clear hcz113_1
            try clear hcz122_0
            try clear hcz122_1
            try clear hcz130_0
            try clear hcz130_1
            try clear hcz134_0
            try clear hcz134_1
            try clear hcz13_0
            try clear hcz13_1
            try clear hcz140_0
            try clear hcz140_1
            try clear hcz144_0
            try clear hcz144_1
            try clear hcz15_0
            try clear hcz15_1
            try clear hcz21_0
            try clear hcz21_1
            try clear hcz23_0
            try clear hcz23_1
            try clear hcz28_0
            try clear hcz28_1
            try clear hcz35_0
            try clear hcz35_1
            try clear hcz42_0
            try clear hcz42_1
            try clear hcz45_0
            try clear hcz45_1
            try clear hcz50_0
            try clear hcz50_1
            try clear hcz53_0
            try clear hcz53_1
            try clear hcz5_0
            try clear hcz5_1
            try clear hcz68_0
            try clear hcz68_1
            try clear hcz76_0
            try clear hcz76_1
            try clear hcz79_0
            try clear hcz79_1
            try clear hcz84_0
            try clear hcz84_1
            try clear hcz87_0
            try clear hcz87_1
            try clear hcz96_0
            try clear hcz96_1
            try clear hcz98_0
            try clear hcz98_1
            try clear hfz107_0
            try clear hfz107_1
            try clear hfz109_0
            try clear hfz109_1
            try clear hfz113_0
            try clear hfz113_1
            try clear hfz122_0
            try clear hfz122_1
            try clear hfz130_0
            try clear hfz130_1
            try clear hfz134_0
            try clear hfz134_1
            try clear hfz13_0
            try clear hfz13_1
            try clear hfz140_0
            try clear hfz140_1
            try clear hfz144_0
            try clear hfz144_1
            try clear hfz15_0
            try clear hfz15_1
            try clear hfz21_0
            try clear hfz21_1
            try clear hfz23_0
            try clear hfz23_1
            try clear hfz28_0
            try clear hfz28_1
            try clear hfz35_0
            try clear hfz35_1
            try clear hfz42_0
            try clear hfz42_1
            try clear hfz45_0
            try clear hfz45_1
            try clear hfz50_0
            try clear hfz50_1
            try clear hfz53_0
            try clear hfz53_1
            try clear hfz5_0
            try clear hfz5_1
            try clear hfz68_0
            try clear hfz68_1
            try clear hfz76_0
            try clear hfz76_1
            try clear hfz79_0
            try clear hfz79_1
            try clear hfz84_0
            try clear hfz84_1
            try clear hfz87_0
            try clear hfz87_1
            try clear hfz96_0
            try clear hfz96_1
            try clear hfz98_0
            try clear hfz98_1
            try clear p2
            obtain ⟨kq, x87_102, rfl, HA, HJ102, HO_789001, HO_794001, HO_800001, HO_822001, BK777, BK788, BK793, BK799, BK821, HB⟩ := hcut
            have hl800001_102 := (Kd.R_reads' HO_800001.out).1
            rw [hl800001_102] at HO_800001
            (try simp only [hl800001_102])
            (try simp only [hl800001_102] at BK777)
            (try simp only [hl800001_102] at BK788)
            (try simp only [hl800001_102] at BK793)
            (try simp only [hl800001_102] at BK799)
            (try simp only [hl800001_102] at BK821)
            (try simp only [hl800001_102] at HO_789001)
            (try simp only [hl800001_102] at HO_794001)
            (try simp only [hl800001_102] at HO_822001)
            cases kq with
            | zero => exact absurd HA.out (by simp [laws_FnExactDualSpace.j2])
            | succ kj102 =>
             have H := HA.out
             clear HA
             simp only [laws_FnExactDualSpace.j2] at H
             by_cases c146 : x87_102 = true
             ·subst c146
              have H1 : (some false) = some r := by rw [if_pos rfl] at H; exact H
              clear H
              have H := H1
              clear H1
              obtain rfl := Option.some.inj H
              go_wp2
              go_ret
              exact ⟨by first | rfl | (simp [errW_none, errW_some] <;> rfl) | (simp [*, errW_none, errW_some] <;> rfl), by repeat (first | (with_reducible first | exact HB.out | apply bQA | apply bQN | apply bQ1 | refine bQS ?_ GE777.out | refine bQS ?_ GE788.out | refine bQS ?_ GE793.out | refine bQS ?_ GE799.out | refine bQS ?_ GE821.out) | exact HB.out)⟩
             ·replace c146 := Bool.eq_false_iff.mpr c146
              subst c146
              have H1 : ((laws_heldMatrix.f kj102 t794 t810 1).bind fun t823 => (if t823 < 0 then (some false) else (if t823 = t809 then (some true) else (some false)))) = some r := by rw [if_neg (show ¬ (false = true) by decide)] at H; exact H
              clear H
              have H := H1
              clear H1
              replace H := Option.bind_eq_some_iff.mp H
              obtain ⟨t823, A1470, H⟩ := H
              replace H : (if t823 < 0 then (some false) else (if t823 = t809 then (some true) else (some false))) = some r := H
              have A147 := Aq.mk A1470
              clear A1470
              by_cases c148 : t823 < 0
              ·rw [if_pos c148] at H
               have c148b0 : decide (t823 < 0) = true := decide_eq_true c148
               clear c148
               (try (have c148b0z := c148b0; simp only [hl794001_59, hl800001_102] at c148b0z))
               obtain rfl := Option.some.inj H
               have hnb149 := NB799_777.out
               have hnc149 := NB777_799.out
               have hnb150 := NB799_788.out
               have hnc150 := NB788_799.out
               have hnb151 := NB799_793.out
               have hnc151 := NB793_799.out
               have hnb152 := NB799_821.out
               have hnc152 := NB821_799.out
               have hcz153_0 : wc.cell? ⟨gb799, 0, none⟩ = some (.int .i64 t794) := (kQC BK799.out 0).trans rfl
               have hcz153_1 : wc.cell? ⟨gb799, 1, none⟩ = some (.slice Ao36 t810.length co36) := (kQC BK799.out 1).trans rfl
               have hfz153_0 := kQF BK799.out 0
               have hfz153_1 := kQF BK799.out 1
               go_wp2_with (first | ((with_reducible refine gQc (f := 21) rfl ?_); refine goesL_ (some 90) rfl rfl Try.func21 (by kernel_rfl) rfl #[.agg #[.int .i64 t794, .slice Ao36 t810.length co36], .int .i64 1] rfl (by (try simp only [List.map_toArray, List.map_cons, List.map_nil]); first | done | rfl | (simp only [List.length_drop, List.length_take]; rfl)) ?_; (with_reducible refine (laws_heldMatrix.calls kj102 t794 _ _ t810 1 t823 _ ?side1 ?side2 A147.out).mono ?_); (case side1 => repeat (first | exact (Kd.R_reads' HO_800001.out).2.2 | (with_reducible refine Kd.CqA ?_ _) | (with_reducible refine Kd.CqN ?_ _) | (with_reducible refine Kd.CqD ?_))); (case side2 => exact (Kd.R_reads' HO_800001.out).2.1); rintro e w154 ⟨rfl, hb⟩; refine ⟨_, rfl, ?_⟩; have n0_ := Aq.mk (Kd.R_below (by (with_reducible repeat (first | apply Kd.RqA | apply Kd.RqN | apply Kd.RqD)); exact HO_789001.out) hb); have n1_ := Aq.mk (Kd.R_below (by (with_reducible repeat (first | apply Kd.RqA | apply Kd.RqN | apply Kd.RqD)); exact HO_794001.out) hb); have n2_ := Aq.mk (Kd.R_below (by (with_reducible repeat (first | apply Kd.RqA | apply Kd.RqN | apply Kd.RqD)); exact HO_800001.out) hb); have n3_ := Aq.mk (Kd.R_below (by (with_reducible repeat (first | apply Kd.RqA | apply Kd.RqN | apply Kd.RqD)); exact HO_822001.out) hb); have n4_ := Aq.mk (kQB (g := gb777) (o := .cells #[.int .i64 a0_0, .slice A0_1 l0_1.length c0_1] 24 (0, 0)) (by (with_reducible repeat (first | refine kQN ?_ _ | refine kQD ?_ | refine kQA ?_ _)); exact BK777.out) hb); have n5_ := Aq.mk (kQB (g := gb788) (o := .cells #[.int .i64 t783, .slice Ao22 t784.length co22] 26 (0, 0)) (by (with_reducible repeat (first | refine kQN ?_ _ | refine kQD ?_ | refine kQA ?_ _)); exact BK788.out) hb); have n6_ := Aq.mk (kQB (g := gb793) (o := .cells #[.int .i64 t789, .slice Ao29 t807.length co29] 26 (0, 0)) (by (with_reducible repeat (first | refine kQN ?_ _ | refine kQD ?_ | refine kQA ?_ _)); exact BK793.out) hb); have n7_ := Aq.mk (kQB (g := gb799) (o := .cells #[.int .i64 t794, .slice Ao36 t810.length co36] 26 (0, 0)) (by (with_reducible repeat (first | refine kQN ?_ _ | refine kQD ?_ | refine kQA ?_ _)); exact BK799.out) hb); have n8_ := Aq.mk (kQB (g := gb821) (o := .cells #[.int .i64 t816, .slice Ao123 t817.length co123] 26 (0, 0)) (by (with_reducible repeat (first | refine kQN ?_ _ | refine kQD ?_ | refine kQA ?_ _)); exact BK821.out) hb); have n9_ := Aq.mk (bQT (by repeat (first | (with_reducible first | exact HB.out | apply bQA | apply bQN | apply bQ1 | refine bQS ?_ GE777.out | refine bQS ?_ GE788.out | refine bQS ?_ GE793.out | refine bQS ?_ GE799.out | refine bQS ?_ GE821.out) | exact HB.out)) hb); clear HO_789001; clear HO_794001; clear HO_800001; clear HO_822001; clear BK777; clear BK788; clear BK793; clear BK799; clear BK821; clear HB; have HO_789001 := n0_; have HO_794001 := n1_; have HO_800001 := n2_; have HO_822001 := n3_; have BK777 := n4_; have BK788 := n5_; have BK793 := n6_; have BK799 := n7_; have BK821 := n8_; have HB := n9_; clear n0_ n1_ n2_ n3_ n4_ n5_ n6_ n7_ n8_ n9_; (try clear hb); (try clear hb2); (try clear hk); (try clear hi)))
               go_ret
               exact ⟨by first | rfl | (simp [errW_none, errW_some] <;> rfl) | (simp [*, errW_none, errW_some] <;> rfl), by repeat (first | (with_reducible first | exact HB.out | apply bQA | apply bQN | apply bQ1 | refine bQS ?_ GE777.out | refine bQS ?_ GE788.out | refine bQS ?_ GE793.out | refine bQS ?_ GE799.out | refine bQS ?_ GE821.out) | exact HB.out)⟩
              ·rw [if_neg c148] at H
               have c148b0 : decide (t823 < 0) = false := decide_eq_false c148
               clear c148
               (try (have c148b0z := c148b0; simp only [hl794001_59, hl800001_102] at c148b0z))
               by_cases c155 : t823 = t809
               ·rw [if_pos c155] at H
                have c155b0 : (t823 == t809) = true := beq_iff_eq.mpr c155
                have c155b1 : (t823 != t809) = false := bne_eq_false_iff_eq.mpr c155
                clear c155
                (try (have c155b0z := c155b0; simp only [hl794001_59, hl800001_102] at c155b0z))
                (try (have c155b1z := c155b1; simp only [hl794001_59, hl800001_102] at c155b1z))
                obtain rfl := Option.some.inj H
                have hnb156 := NB799_777.out
                have hnc156 := NB777_799.out
                have hnb157 := NB799_788.out
                have hnc157 := NB788_799.out
                have hnb158 := NB799_793.out
                have hnc158 := NB793_799.out
                have hnb159 := NB799_821.out
                have hnc159 := NB821_799.out
                have hcz160_0 : wc.cell? ⟨gb799, 0, none⟩ = some (.int .i64 t794) := (kQC BK799.out 0).trans rfl
                have hcz160_1 : wc.cell? ⟨gb799, 1, none⟩ = some (.slice Ao36 t810.length co36) := (kQC BK799.out 1).trans rfl
                have hfz160_0 := kQF BK799.out 0
                have hfz160_1 := kQF BK799.out 1
                go_wp2_with (first | ((with_reducible refine gQc (f := 21) rfl ?_); refine goesL_ (some 90) rfl rfl Try.func21 (by kernel_rfl) rfl #[.agg #[.int .i64 t794, .slice Ao36 t810.length co36], .int .i64 1] rfl (by (try simp only [List.map_toArray, List.map_cons, List.map_nil]); first | done | rfl | (simp only [List.length_drop, List.length_take]; rfl)) ?_; (with_reducible refine (laws_heldMatrix.calls kj102 t794 _ _ t810 1 t823 _ ?side1 ?side2 A147.out).mono ?_); (case side1 => repeat (first | exact (Kd.R_reads' HO_800001.out).2.2 | (with_reducible refine Kd.CqA ?_ _) | (with_reducible refine Kd.CqN ?_ _) | (with_reducible refine Kd.CqD ?_))); (case side2 => exact (Kd.R_reads' HO_800001.out).2.1); rintro e w161 ⟨rfl, hb⟩; refine ⟨_, rfl, ?_⟩; have n0_ := Aq.mk (Kd.R_below (by (with_reducible repeat (first | apply Kd.RqA | apply Kd.RqN | apply Kd.RqD)); exact HO_789001.out) hb); have n1_ := Aq.mk (Kd.R_below (by (with_reducible repeat (first | apply Kd.RqA | apply Kd.RqN | apply Kd.RqD)); exact HO_794001.out) hb); have n2_ := Aq.mk (Kd.R_below (by (with_reducible repeat (first | apply Kd.RqA | apply Kd.RqN | apply Kd.RqD)); exact HO_800001.out) hb); have n3_ := Aq.mk (Kd.R_below (by (with_reducible repeat (first | apply Kd.RqA | apply Kd.RqN | apply Kd.RqD)); exact HO_822001.out) hb); have n4_ := Aq.mk (kQB (g := gb777) (o := .cells #[.int .i64 a0_0, .slice A0_1 l0_1.length c0_1] 24 (0, 0)) (by (with_reducible repeat (first | refine kQN ?_ _ | refine kQD ?_ | refine kQA ?_ _)); exact BK777.out) hb); have n5_ := Aq.mk (kQB (g := gb788) (o := .cells #[.int .i64 t783, .slice Ao22 t784.length co22] 26 (0, 0)) (by (with_reducible repeat (first | refine kQN ?_ _ | refine kQD ?_ | refine kQA ?_ _)); exact BK788.out) hb); have n6_ := Aq.mk (kQB (g := gb793) (o := .cells #[.int .i64 t789, .slice Ao29 t807.length co29] 26 (0, 0)) (by (with_reducible repeat (first | refine kQN ?_ _ | refine kQD ?_ | refine kQA ?_ _)); exact BK793.out) hb); have n7_ := Aq.mk (kQB (g := gb799) (o := .cells #[.int .i64 t794, .slice Ao36 t810.length co36] 26 (0, 0)) (by (with_reducible repeat (first | refine kQN ?_ _ | refine kQD ?_ | refine kQA ?_ _)); exact BK799.out) hb); have n8_ := Aq.mk (kQB (g := gb821) (o := .cells #[.int .i64 t816, .slice Ao123 t817.length co123] 26 (0, 0)) (by (with_reducible repeat (first | refine kQN ?_ _ | refine kQD ?_ | refine kQA ?_ _)); exact BK821.out) hb); have n9_ := Aq.mk (bQT (by repeat (first | (with_reducible first | exact HB.out | apply bQA | apply bQN | apply bQ1 | refine bQS ?_ GE777.out | refine bQS ?_ GE788.out | refine bQS ?_ GE793.out | refine bQS ?_ GE799.out | refine bQS ?_ GE821.out) | exact HB.out)) hb); clear HO_789001; clear HO_794001; clear HO_800001; clear HO_822001; clear BK777; clear BK788; clear BK793; clear BK799; clear BK821; clear HB; have HO_789001 := n0_; have HO_794001 := n1_; have HO_800001 := n2_; have HO_822001 := n3_; have BK777 := n4_; have BK788 := n5_; have BK793 := n6_; have BK799 := n7_; have BK821 := n8_; have HB := n9_; clear n0_ n1_ n2_ n3_ n4_ n5_ n6_ n7_ n8_ n9_; (try clear hb); (try clear hb2); (try clear hk); (try clear hi)))
                go_ret
                exact ⟨by first | rfl | (simp [errW_none, errW_some] <;> rfl) | (simp [*, errW_none, errW_some] <;> rfl), by repeat (first | (with_reducible first | exact HB.out | apply bQA | apply bQN | apply bQ1 | refine bQS ?_ GE777.out | refine bQS ?_ GE788.out | refine bQS ?_ GE793.out | refine bQS ?_ GE799.out | refine bQS ?_ GE821.out) | exact HB.out)⟩
               ·rw [if_neg c155] at H
                have c155b0 : (t823 == t809) = false := beq_eq_false_iff_ne.mpr c155
                have c155b1 : (t823 != t809) = true := bne_iff_ne.mpr c155
                (try (have c155b0z := c155b0; simp only [hl794001_59, hl800001_102] at c155b0z))
                (try (have c155b1z := c155b1; simp only [hl794001_59, hl800001_102] at c155b1z))
                obtain rfl := Option.some.inj H
                have hnb162 := NB799_777.out
                have hnc162 := NB777_799.out
                have hnb163 := NB799_788.out
                have hnc163 := NB788_799.out
                have hnb164 := NB799_793.out
                have hnc164 := NB793_799.out
                have hnb165 := NB799_821.out
                have hnc165 := NB821_799.out
                have hcz166_0 : wc.cell? ⟨gb799, 0, none⟩ = some (.int .i64 t794) := (kQC BK799.out 0).trans rfl
                have hcz166_1 : wc.cell? ⟨gb799, 1, none⟩ = some (.slice Ao36 t810.length co36) := (kQC BK799.out 1).trans rfl
                have hfz166_0 := kQF BK799.out 0
                have hfz166_1 := kQF BK799.out 1
                go_wp2_with (first | ((with_reducible refine gQc (f := 21) rfl ?_); refine goesL_ (some 90) rfl rfl Try.func21 (by kernel_rfl) rfl #[.agg #[.int .i64 t794, .slice Ao36 t810.length co36], .int .i64 1] rfl (by (try simp only [List.map_toArray, List.map_cons, List.map_nil]); first | done | rfl | (simp only [List.length_drop, List.length_take]; rfl)) ?_; (with_reducible refine (laws_heldMatrix.calls kj102 t794 _ _ t810 1 t823 _ ?side1 ?side2 A147.out).mono ?_); (case side1 => repeat (first | exact (Kd.R_reads' HO_800001.out).2.2 | (with_reducible refine Kd.CqA ?_ _) | (with_reducible refine Kd.CqN ?_ _) | (with_reducible refine Kd.CqD ?_))); (case side2 => exact (Kd.R_reads' HO_800001.out).2.1); rintro e w167 ⟨rfl, hb⟩; refine ⟨_, rfl, ?_⟩; have n0_ := Aq.mk (Kd.R_below (by (with_reducible repeat (first | apply Kd.RqA | apply Kd.RqN | apply Kd.RqD)); exact HO_789001.out) hb); have n1_ := Aq.mk (Kd.R_below (by (with_reducible repeat (first | apply Kd.RqA | apply Kd.RqN | apply Kd.RqD)); exact HO_794001.out) hb); have n2_ := Aq.mk (Kd.R_below (by (with_reducible repeat (first | apply Kd.RqA | apply Kd.RqN | apply Kd.RqD)); exact HO_800001.out) hb); have n3_ := Aq.mk (Kd.R_below (by (with_reducible repeat (first | apply Kd.RqA | apply Kd.RqN | apply Kd.RqD)); exact HO_822001.out) hb); have n4_ := Aq.mk (kQB (g := gb777) (o := .cells #[.int .i64 a0_0, .slice A0_1 l0_1.length c0_1] 24 (0, 0)) (by (with_reducible repeat (first | refine kQN ?_ _ | refine kQD ?_ | refine kQA ?_ _)); exact BK777.out) hb); have n5_ := Aq.mk (kQB (g := gb788) (o := .cells #[.int .i64 t783, .slice Ao22 t784.length co22] 26 (0, 0)) (by (with_reducible repeat (first | refine kQN ?_ _ | refine kQD ?_ | refine kQA ?_ _)); exact BK788.out) hb); have n6_ := Aq.mk (kQB (g := gb793) (o := .cells #[.int .i64 t789, .slice Ao29 t807.length co29] 26 (0, 0)) (by (with_reducible repeat (first | refine kQN ?_ _ | refine kQD ?_ | refine kQA ?_ _)); exact BK793.out) hb); have n7_ := Aq.mk (kQB (g := gb799) (o := .cells #[.int .i64 t794, .slice Ao36 t810.length co36] 26 (0, 0)) (by (with_reducible repeat (first | refine kQN ?_ _ | refine kQD ?_ | refine kQA ?_ _)); exact BK799.out) hb); have n8_ := Aq.mk (kQB (g := gb821) (o := .cells #[.int .i64 t816, .slice Ao123 t817.length co123] 26 (0, 0)) (by (with_reducible repeat (first | refine kQN ?_ _ | refine kQD ?_ | refine kQA ?_ _)); exact BK821.out) hb); have n9_ := Aq.mk (bQT (by repeat (first | (with_reducible first | exact HB.out | apply bQA | apply bQN | apply bQ1 | refine bQS ?_ GE777.out | refine bQS ?_ GE788.out | refine bQS ?_ GE793.out | refine bQS ?_ GE799.out | refine bQS ?_ GE821.out) | exact HB.out)) hb); clear HO_789001; clear HO_794001; clear HO_800001; clear HO_822001; clear BK777; clear BK788; clear BK793; clear BK799; clear BK821; clear HB; have HO_789001 := n0_; have HO_794001 := n1_; have HO_800001 := n2_; have HO_822001 := n3_; have BK777 := n4_; have BK788 := n5_; have BK793 := n6_; have BK799 := n7_; have BK821 := n8_; have HB := n9_; clear n0_ n1_ n2_ n3_ n4_ n5_ n6_ n7_ n8_ n9_; (try clear hb); (try clear hb2); (try clear hk); (try clear hi)))
                go_ret
                exact ⟨by first | rfl | (simp [errW_none, errW_some] <;> rfl) | (simp [*, errW_none, errW_some] <;> rfl), by repeat (first | (with_reducible first | exact HB.out | apply bQA | apply bQN | apply bQ1 | refine bQS ?_ GE777.out | refine bQS ?_ GE788.out | refine bQS ?_ GE793.out | refine bQS ?_ GE799.out | refine bQS ?_ GE821.out) | exact HB.out)⟩
          ·rw [if_neg c100] at H
           have c100b0 : (t811 == t809) = false := beq_eq_false_iff_ne.mpr c100
           have c100b1 : (t811 != t809) = true := bne_iff_ne.mpr c100
           (try (have c100b0z := c100b0; simp only [hl794001_59] at c100b0z))
           (try (have c100b1z := c100b1; simp only [hl794001_59] at c100b1z))
           obtain rfl := Option.some.inj H
           have hnb168 := NB799_777.out
           have hnc168 := NB777_799.out
           have hnb169 := NB799_788.out
           have hnc169 := NB788_799.out
           have hnb170 := NB799_793.out
           have hnc170 := NB793_799.out
           have hcz171_0 : wc.cell? ⟨gb799, 0, none⟩ = some (.int .i64 t794) := (kQC BK799.out 0).trans rfl
           have hcz171_1 : wc.cell? ⟨gb799, 1, none⟩ = some (.slice Ao36 t795.length co36) := (kQC BK799.out 1).trans rfl
           have hfz171_0 := kQF BK799.out 0
           have hfz171_1 := kQF BK799.out 1
           go_wp2_with (first | ((with_reducible refine gQc (f := 20) rfl ?_); refine goesL_ (some 64) rfl rfl Try.func20 (by kernel_rfl) rfl #[.agg #[.int .i64 t794, .slice Ao36 t795.length co36], .int .i64 1] rfl (by (try simp only [List.map_toArray, List.map_cons, List.map_nil]); first | done | rfl | (simp only [List.length_drop, List.length_take]; rfl)) ?_; (with_reducible refine (laws_markMatrix.calls kj59 t794 (fun k_ => some k_ = (.slice Ao36 t795.length co36 : Value).ownBlock) (.slice Ao36 t795.length co36) t795 1 t809 t810 w _ ?side1 ?side2 A90.out).mono ?_); (case side1 => repeat (first | (with_reducible first | exact HB.out | apply bQA | apply bQN | apply bQ1 | refine bQS ?_ GE777.out | refine bQS ?_ GE788.out | refine bQS ?_ GE793.out | refine bQS ?_ GE799.out) | exact HB.out)); (case side2 => exact Kd.R_tight rfl HO_800001.out); rintro e w172 ⟨rfl, hy0, hb, hkp⟩; refine ⟨_, rfl, ?_⟩; have n0_ := Aq.mk (Kd.R_mono (ok' := fun k_ => some k_ ≠ (.slice Ao29 t807.length co29 : Value).ownBlock ∧ some k_ ≠ (.slice Ao36 t795.length co36 : Value).ownBlock) (Kd.R_keptB (HO_789001.out) hkp (fun k_ hk_ hs_ => (hk_.2) hs_)) (fun k_ hk_ => ⟨hk_.1.1, hk_.1.2⟩)); have n1_ := Aq.mk (Kd.R_mono (ok' := fun k_ => some k_ ≠ (.slice Ao22 t784.length co22 : Value).ownBlock ∧ some k_ ≠ (.slice Ao36 t795.length co36 : Value).ownBlock) (Kd.R_keptB (HO_794001.out) hkp (fun k_ hk_ hs_ => (hk_.2) hs_)) (fun k_ hk_ => ⟨hk_.1.1, hk_.1.2⟩)); have n2_ := Aq.mk (Kd.R_reok rfl hy0 (fun k_ e_ => HO_800001.out.1 k_ e_)); have n3_ := Aq.mk (blk_kept (by (with_reducible repeat (first | refine kQN ?_ _ | refine kQD ?_ | refine kQA ?_ _)); exact BK777.out) hkp (fun hs_ => (fun e_ => (Kd.R_ne HO_800001.out BK777.out (by decide)) e_) hs_)); have n4_ := Aq.mk (blk_kept (by (with_reducible repeat (first | refine kQN ?_ _ | refine kQD ?_ | refine kQA ?_ _)); exact BK788.out) hkp (fun hs_ => (fun e_ => (Kd.R_ne HO_800001.out BK788.out (by decide)) e_) hs_)); have n5_ := Aq.mk (blk_kept (by (with_reducible repeat (first | refine kQN ?_ _ | refine kQD ?_ | refine kQA ?_ _)); exact BK793.out) hkp (fun hs_ => (fun e_ => (Kd.R_ne HO_800001.out BK793.out (by decide)) e_) hs_)); have n6_ := Aq.mk (blk_kept (by (with_reducible repeat (first | refine kQN ?_ _ | refine kQD ?_ | refine kQA ?_ _)); exact BK799.out) hkp (fun hs_ => (fun e_ => (Kd.R_ne HO_800001.out BK799.out (by decide)) e_) hs_)); have n7_ := Aq.mk (hb); clear HO_789001; clear HO_794001; clear HO_800001; clear BK777; clear BK788; clear BK793; clear BK799; clear HB; have HO_789001 := n0_; have HO_794001 := n1_; have HO_800001 := n2_; have BK777 := n3_; have BK788 := n4_; have BK793 := n5_; have BK799 := n6_; have HB := n7_; clear n0_ n1_ n2_ n3_ n4_ n5_ n6_ n7_; (try clear hb); (try clear hkp); (try clear hy0); have hcz173_0 : w172.cell? ⟨gb799, 0, none⟩ = some (.int .i64 t794) := (kQC BK799.out 0).trans rfl; have hcz173_1 : w172.cell? ⟨gb799, 1, none⟩ = some (.slice Ao36 t795.length co36) := (kQC BK799.out 1).trans rfl; have hfz173_0 := kQF BK799.out 0; have hfz173_1 := kQF BK799.out 1) | ((with_reducible refine gQc (f := 21) rfl ?_); refine goesL_ (some 67) rfl rfl Try.func21 (by kernel_rfl) rfl #[.agg #[.int .i64 t794, .slice Ao36 t810.length co36], .int .i64 1] rfl (by (try simp only [List.map_toArray, List.map_cons, List.map_nil]); first | done | (rw [show t810.length = t795.length from (Kd.R_reads' HO_800001.out).1.symm] <;> rfl) | rfl | (simp only [List.length_drop, List.length_take]; rfl)) ?_; (with_reducible refine (laws_heldMatrix.calls kj59 t794 _ _ t810 1 t811 _ ?side1 ?side2 A91.out).mono ?_); (case side1 => repeat (first | exact (Kd.R_reads' HO_800001.out).2.2 | (with_reducible refine Kd.CqA ?_ _) | (with_reducible refine Kd.CqN ?_ _) | (with_reducible refine Kd.CqD ?_))); (case side2 => rw [show t810.length = t795.length from (Kd.R_reads' HO_800001.out).1.symm]; exact (Kd.R_reads' HO_800001.out).2.1); rintro e w174 ⟨rfl, hb⟩; refine ⟨_, rfl, ?_⟩; have n0_ := Aq.mk (Kd.R_below (by (with_reducible repeat (first | apply Kd.RqA | apply Kd.RqN | apply Kd.RqD)); exact HO_789001.out) hb); have n1_ := Aq.mk (Kd.R_below (by (with_reducible repeat (first | apply Kd.RqA | apply Kd.RqN | apply Kd.RqD)); exact HO_794001.out) hb); have n2_ := Aq.mk (Kd.R_below (by (with_reducible repeat (first | apply Kd.RqA | apply Kd.RqN | apply Kd.RqD)); exact HO_800001.out) hb); have n3_ := Aq.mk (kQB (g := gb777) (o := .cells #[.int .i64 a0_0, .slice A0_1 l0_1.length c0_1] 24 (0, 0)) (by (with_reducible repeat (first | refine kQN ?_ _ | refine kQD ?_ | refine kQA ?_ _)); exact BK777.out) hb); have n4_ := Aq.mk (kQB (g := gb788) (o := .cells #[.int .i64 t783, .slice Ao22 t784.length co22] 26 (0, 0)) (by (with_reducible repeat (first | refine kQN ?_ _ | refine kQD ?_ | refine kQA ?_ _)); exact BK788.out) hb); have n5_ := Aq.mk (kQB (g := gb793) (o := .cells #[.int .i64 t789, .slice Ao29 t807.length co29] 26 (0, 0)) (by (with_reducible repeat (first | refine kQN ?_ _ | refine kQD ?_ | refine kQA ?_ _)); exact BK793.out) hb); have n6_ := Aq.mk (kQB (g := gb799) (o := .cells #[.int .i64 t794, .slice Ao36 t795.length co36] 26 (0, 0)) (by (with_reducible repeat (first | refine kQN ?_ _ | refine kQD ?_ | refine kQA ?_ _)); exact BK799.out) hb); have n7_ := Aq.mk (bQT (by repeat (first | (with_reducible first | exact HB.out | apply bQA | apply bQN | apply bQ1 | refine bQS ?_ GE777.out | refine bQS ?_ GE788.out | refine bQS ?_ GE793.out | refine bQS ?_ GE799.out) | exact HB.out)) hb); clear HO_789001; clear HO_794001; clear HO_800001; clear BK777; clear BK788; clear BK793; clear BK799; clear HB; have HO_789001 := n0_; have HO_794001 := n1_; have HO_800001 := n2_; have BK777 := n3_; have BK788 := n4_; have BK793 := n5_; have BK799 := n6_; have HB := n7_; clear n0_ n1_ n2_ n3_ n4_ n5_ n6_ n7_; (try clear hb); (try clear hb2); (try clear hk); (try clear hi)))
           go_ret
           exact ⟨by first | rfl | (simp [errW_none, errW_some] <;> rfl) | (simp [*, errW_none, errW_some] <;> rfl), by repeat (first | (with_reducible first | exact HB.out | apply bQA | apply bQN | apply bQ1 | refine bQS ?_ GE777.out | refine bQS ?_ GE788.out | refine bQS ?_ GE793.out | refine bQS ?_ GE799.out) | exact HB.out)⟩
     ·replace c58 := Bool.eq_false_iff.mpr c58
      subst c58
      have H1 : (some false) = some r := by rw [if_neg (show ¬ (false = true) by decide)] at H; exact H
      clear H
      have H := H1
      clear H1
      obtain rfl := Option.some.inj H
      try go_wp2
      have n0_ := Aq.mk (Kd.RqD HO_789001.out)
      have n1_ := Aq.mk (Kd.RqD HO_794001.out)
      have n2_ := Aq.mk (Kd.RqD HO_800001.out)
      have n3_ := Aq.mk (kQD BK777.out)
      have n4_ := Aq.mk (kQD BK788.out)
      have n5_ := Aq.mk (kQD BK793.out)
      have n6_ := Aq.mk (kQD BK799.out)
      have n7_ := Aq.mk (bQ1 HB.out)
      clear HO_789001
      clear HO_794001
      clear HO_800001
      clear BK777
      clear BK788
      clear BK793
      clear BK799
      clear HB
      have HO_789001 := n0_
      have HO_794001 := n1_
      have HO_800001 := n2_
      have BK777 := n3_
      have BK788 := n4_
      have BK793 := n5_
      have BK799 := n6_
      have HB := n7_
      clear n0_ n1_ n2_ n3_ n4_ n5_ n6_ n7_
      refine start_ (n := 5) (S := fun w' => w'.cell? ⟨gb793, 0, none⟩ = some (.int .i64 t789) ∧ w'.cell? ⟨gb793, 1, none⟩ = some (.slice Ao29 t790.length co29) ∧ w'.cell? ⟨gb777, 0, none⟩ = some (.int .i64 a0_0) ∧ w'.cell? ⟨gb777, 1, none⟩ = some (.slice A0_1 l0_1.length c0_1)) (ds := []) #[false, false, false, false, false] (by kernel_rfl) rfl rfl ⟨(kQC BK793.out 0).trans rfl, (kQC BK793.out 1).trans rfl, (kQC BK777.out 0).trans rfl, (kQC BK777.out 1).trans rfl⟩ (fun hHeld => ?_)
      generalize wc.drew = w175 at HO_789001 HO_794001 HO_800001 BK777 BK788 BK793 BK799 HB hHeld ⊢
      refine take_ (i := 0) (N := some 41) (v := ?_) (a' := ?_) #[true, false, false, false, false] rfl rfl (by kernel_rfl) (fun _ _ _ h => h) (Or.inl ⟨by rfl, ?_⟩) hHeld ?_ ?_
      rotate_left
      ·rintro w' ⟨s0, s1, s2, s3⟩
       go_simp
       with_reducible rfl
      rotate_left
      ·simp only [Act.put, qSa, qSb, qSc, i64_w, i32_w]
       rfl
      refine take_ (i := 1) (N := some 42) (v := ?_) (a' := ?_) #[true, true, false, false, false] rfl rfl (by kernel_rfl) (fun _ _ _ h => h) (Or.inl ⟨by rfl, ?_⟩) hHeld ?_ ?_
      rotate_left
      ·rintro w' ⟨s0, s1, s2, s3⟩
       go_simp
       with_reducible rfl
      rotate_left
      ·simp only [Act.put, qSa, qSb, qSc, i64_w, i32_w]
       rfl
      refine one_ (i := 2) (N := some 43) #[true, true, true, false, false] rfl rfl (by kernel_rfl) (by decide) (fun K hK => ?_)
      refine goes_ Try.func17 (by kernel_rfl) rfl #[.agg #[.int .i64 a0_0, .slice A0_1 l0_1.length c0_1]] (by rfl) rfl rfl (by (try simp only [List.map_toArray, List.map_cons, List.map_nil]); first | done | rfl | (simp only [List.length_drop, List.length_take]; rfl)) ?_
      with_reducible refine (laws_toMatrix.calls kj10 a0_0 _ _ l0_1 t801 t802 _ ?side1 ?side2 A56.out).mono ?_
      (case side1 => repeat (first | exact (Kd.C_below HR0_1.out HB.out) | (with_reducible refine Kd.CqA ?_ _) | (with_reducible refine Kd.CqN ?_ _) | (with_reducible refine Kd.CqD ?_)))
      (case side2 => exact HC0_1.out)
      rintro e w176 ⟨v803, rfl, ho0, hb⟩
      refine ⟨_, rfl, ?_⟩
      have n0_ := Aq.mk (Kd.R_elder' (by (with_reducible repeat (first | apply Kd.RqA | apply Kd.RqN | apply Kd.RqD)); exact HO_789001.out) (Kd.R_base ho0) hb)
      have n1_ := Aq.mk (Kd.R_elder' (by (with_reducible repeat (first | apply Kd.RqA | apply Kd.RqN | apply Kd.RqD)); exact HO_794001.out) (Kd.R_base ho0) hb)
      have n2_ := Aq.mk (Kd.R_elder' (by (with_reducible repeat (first | apply Kd.RqA | apply Kd.RqN | apply Kd.RqD)); exact HO_800001.out) (Kd.R_base ho0) hb)
      have n3_ := Aq.mk (Kd.R_lower (Kd.R_new' (Kd.R_new' (Kd.R_new' ho0 (Kd.R_lt (by (with_reducible repeat (first | apply Kd.RqA | apply Kd.RqN | apply Kd.RqD)); exact HO_789001.out))) (Kd.R_lt (by (with_reducible repeat (first | apply Kd.RqA | apply Kd.RqN | apply Kd.RqD)); exact HO_794001.out))) (Kd.R_lt (by (with_reducible repeat (first | apply Kd.RqA | apply Kd.RqN | apply Kd.RqD)); exact HO_800001.out))) (bQZ (by repeat (first | (with_reducible first | exact HB.out | apply bQA | apply bQN | apply bQ1 | refine bQS ?_ GE777.out | refine bQS ?_ GE788.out | refine bQS ?_ GE793.out | refine bQS ?_ GE799.out) | exact HB.out))))
      have n4_ := Aq.mk (kQB (g := gb777) (o := .cells #[.int .i64 a0_0, .slice A0_1 l0_1.length c0_1] 24 (0, 0)) (by (with_reducible repeat (first | refine kQN ?_ _ | refine kQD ?_ | refine kQA ?_ _)); exact BK777.out) hb)
      have n5_ := Aq.mk (kQB (g := gb788) (o := .cells #[.int .i64 t783, .slice Ao22 t784.length co22] 26 (0, 0)) (by (with_reducible repeat (first | refine kQN ?_ _ | refine kQD ?_ | refine kQA ?_ _)); exact BK788.out) hb)
      have n6_ := Aq.mk (kQB (g := gb793) (o := .cells #[.int .i64 t789, .slice Ao29 t790.length co29] 26 (0, 0)) (by (with_reducible repeat (first | refine kQN ?_ _ | refine kQD ?_ | refine kQA ?_ _)); exact BK793.out) hb)
      have n7_ := Aq.mk (kQB (g := gb799) (o := .cells #[.int .i64 t794, .slice Ao36 t795.length co36] 26 (0, 0)) (by (with_reducible repeat (first | refine kQN ?_ _ | refine kQD ?_ | refine kQA ?_ _)); exact BK799.out) hb)
      have n8_ := Aq.mk (bQT (by repeat (first | (with_reducible first | exact HB.out | apply bQA | apply bQN | apply bQ1 | refine bQS ?_ GE777.out | refine bQS ?_ GE788.out | refine bQS ?_ GE793.out | refine bQS ?_ GE799.out) | exact HB.out)) hb)
      clear HO_789001
      clear HO_794001
      clear HO_800001
      clear BK777
      clear BK788
      clear BK793
      clear BK799
      clear HB
      have HO_789001 := n0_
      have HO_794001 := n1_
      have HO_800001 := n2_
      have HO804 := n3_
      have BK777 := n4_
      have BK788 := n5_
      have BK793 := n6_
      have BK799 := n7_
      have HB := n8_
      clear n0_ n1_ n2_ n3_ n4_ n5_ n6_ n7_ n8_
      (try clear hb)
      (try clear hb2)
      (try clear hk)
      (try clear hi)
      (try clear ho0)
      obtain ⟨Ao177, co177, eo177⟩ := Kd.R_slice HO804.out
      (first | subst eo177 | (injection eo177 with f1_ f2_ f3_; have f4_ := f1_.symm; have f5_ := f3_.symm; clear f1_ f2_ f3_; subst f4_; subst f5_))
      refine hK.out _ _ ⟨(kQC BK793.out 0).trans rfl, (kQC BK793.out 1).trans rfl, (kQC BK777.out 0).trans rfl, (kQC BK777.out 1).trans rfl⟩ (fun hHeld => ?_)
      clear hK K
      refine norm_ (a' := ?_) ?_ ?_
      rotate_left
      ·show Act.put _ (some 43) _ = _
       simp only [Act.put, qSa, qSb, qSc, i64_w, i32_w]
       rfl
      refine one_ (i := 3) (N := some 44) #[true, true, true, true, false] rfl rfl (by kernel_rfl) (by decide) (fun K hK => ?_)
      refine goes_ Try.func19 (by kernel_rfl) rfl #[.agg #[.int .i64 t789, .slice Ao29 t790.length co29], .agg #[.int .i64 t801, .slice Ao177 t802.length co177]] (by rfl) rfl rfl (by (try simp only [List.map_toArray, List.map_cons, List.map_nil]); first | done | rfl | (simp only [List.length_drop, List.length_take]; rfl)) ?_
      with_reducible refine (laws_eqMatrix.calls kj10 t789 _ _ t790 t801 _ _ t802 false _ ?side1 ?side2 ?side3 ?side4 A57.out).mono ?_
      (case side1 => repeat (first | exact (Kd.R_reads' HO_794001.out).2.2 | (with_reducible refine Kd.CqA ?_ _) | (with_reducible refine Kd.CqN ?_ _) | (with_reducible refine Kd.CqD ?_)))
      (case side2 => exact (Kd.R_reads' HO_794001.out).2.1)
      (case side3 => repeat (first | exact (Kd.R_reads' HO804.out).2.2 | (with_reducible refine Kd.CqA ?_ _) | (with_reducible refine Kd.CqN ?_ _) | (with_reducible refine Kd.CqD ?_)))
      (case side4 => exact (Kd.R_reads' HO804.out).2.1)
      rintro e w178 ⟨rfl, hb⟩
      refine ⟨_, rfl, ?_⟩
      have n0_ := Aq.mk (Kd.R_below (by (with_reducible repeat (first | apply Kd.RqA | apply Kd.RqN | apply Kd.RqD)); exact HO_789001.out) hb)
      have n1_ := Aq.mk (Kd.R_below (by (with_reducible repeat (first | apply Kd.RqA | apply Kd.RqN | apply Kd.RqD)); exact HO_794001.out) hb)
      have n2_ := Aq.mk (Kd.R_below (by (with_reducible repeat (first | apply Kd.RqA | apply Kd.RqN | apply Kd.RqD)); exact HO_800001.out) hb)
      have n3_ := Aq.mk (Kd.R_below (by (with_reducible repeat (first | apply Kd.RqA | apply Kd.RqN | apply Kd.RqD)); exact HO804.out) hb)
      have n4_ := Aq.mk (kQB (g := gb777) (o := .cells #[.int .i64 a0_0, .slice A0_1 l0_1.length c0_1] 24 (0, 0)) (by (with_reducible repeat (first | refine kQN ?_ _ | refine kQD ?_ | refine kQA ?_ _)); exact BK777.out) hb)
      have n5_ := Aq.mk (kQB (g := gb788) (o := .cells #[.int .i64 t783, .slice Ao22 t784.length co22] 26 (0, 0)) (by (with_reducible repeat (first | refine kQN ?_ _ | refine kQD ?_ | refine kQA ?_ _)); exact BK788.out) hb)
      have n6_ := Aq.mk (kQB (g := gb793) (o := .cells #[.int .i64 t789, .slice Ao29 t790.length co29] 26 (0, 0)) (by (with_reducible repeat (first | refine kQN ?_ _ | refine kQD ?_ | refine kQA ?_ _)); exact BK793.out) hb)
      have n7_ := Aq.mk (kQB (g := gb799) (o := .cells #[.int .i64 t794, .slice Ao36 t795.length co36] 26 (0, 0)) (by (with_reducible repeat (first | refine kQN ?_ _ | refine kQD ?_ | refine kQA ?_ _)); exact BK799.out) hb)
      have n8_ := Aq.mk (bQT (by repeat (first | (with_reducible first | exact HB.out | apply bQA | apply bQN | apply bQ1 | refine bQS ?_ GE777.out | refine bQS ?_ GE788.out | refine bQS ?_ GE793.out | refine bQS ?_ GE799.out) | exact HB.out)) hb)
      clear HO_789001
      clear HO_794001
      clear HO_800001
      clear HO804
      clear BK777
      clear BK788
      clear BK793
      clear BK799
      clear HB
      have HO_789001 := n0_
      have HO_794001 := n1_
      have HO_800001 := n2_
      have HO804 := n3_
      have BK777 := n4_
      have BK788 := n5_
      have BK793 := n6_
      have BK799 := n7_
      have HB := n8_
      clear n0_ n1_ n2_ n3_ n4_ n5_ n6_ n7_ n8_
      (try clear hb)
      (try clear hb2)
      (try clear hk)
      (try clear hi)
      refine hK.out _ _ ⟨(kQC BK793.out 0).trans rfl, (kQC BK793.out 1).trans rfl, (kQC BK777.out 0).trans rfl, (kQC BK777.out 1).trans rfl⟩ (fun hHeld => ?_)
      clear hK K
      refine norm_ (a' := ?_) ?_ ?_
      rotate_left
      ·show Act.put _ (some 44) _ = _
       simp only [Act.put, qSa, qSb, qSc, i64_w, i32_w]
       rfl
      refine pure_ (i := 4) (N := some 45) (v := ?_) (a' := ?_) #[true, true, true, true, true] rfl rfl (by kernel_rfl) (fun _ _ _ h => h) (Or.inl ⟨by rfl, ?_⟩) ?_ ?_
      rotate_left
      ·intro w'
       go_simp
       with_reducible rfl
      rotate_left
      ·simp only [Act.put, qSa, qSb, qSc, i64_w, i32_w]
       rfl
      refine done_ (by kernel_rfl) ?_
      try go_wp2
      go_ret
      exact ⟨by first | rfl | (simp [errW_none, errW_some] <;> rfl) | (simp [*, errW_none, errW_some] <;> rfl), by repeat (first | (with_reducible first | exact HB.out | apply bQA | apply bQN | apply bQ1 | refine bQS ?_ GE777.out | refine bQS ?_ GE788.out | refine bQS ?_ GE793.out | refine bQS ?_ GE799.out) | exact HB.out)⟩
end Go.Proofs.Ytbaicdgkpnbipaa.P
