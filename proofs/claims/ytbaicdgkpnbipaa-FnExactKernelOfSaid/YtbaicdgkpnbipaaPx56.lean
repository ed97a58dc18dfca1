/- Functions of the program and what they tell, as the printing program wrote it. -/
import Derived.Test.YtbaicdgkpnbipaaPx0
import Derived.Test.YtbaicdgkpnbipaaPx5
import Derived.Test.YtbaicdgkpnbipaaPx10
import Derived.Test.YtbaicdgkpnbipaaPx19
import Derived.Test.YtbaicdgkpnbipaaPx36
namespace Go.Proofs.Ytbaicdgkpnbipaa.P
open Go.Shelf Go.RowKit Go.Proofs.YtbaicdgkpnbipaaW.PrintWords Go.Proofs.YtbaicdgkpnbipaaW.PrintLast Go.Proofs.YtbaicdgkpnbipaaW.PrintMore
attribute [local go_sem] max2_int min2_int max_two min_two max_three min_three max_four min_four
set_option linter.unusedVariables false
set_option linter.unusedSimpArgs false
mutual
def laws_FnExactKernelOf.j0 : Nat → Int → Int → Bool → Int → List Int → Int → List Int → Int → List Int → Int → List Int → Option (Bool)
  | 0, _, _, _, _, _, _, _, _, _, _, _ => none
  | k + 1, x5, x8, x40, x238000, x238001, x249000, x249001, x254000, x254001, x260000, x260001 => if x40 = true then (some false) else ((laws_toMatrix.f k x238000 x238001).bind fun bt261 => ((laws_eqMatrix.f k x254000 x254001 bt261.1 bt261.2).bind fun t265 => (if t265 = true then ((laws_markMatrix.f k x254000 x254001 1).bind fun bt266 => (if bt266.1 < 0 then (laws_FnExactKernelOf.j1 k x5 true x238000 x238001 x249000 x249001 x260000 x260001) else ((laws_eqMatrix.f k x260000 x260001 x249000 x249001).bind fun t268 => (if t268 = true then (laws_FnExactKernelOf.j1 k x5 (x8 != x5) x238000 x238001 x249000 x249001 x260000 x260001) else (laws_FnExactKernelOf.j1 k x5 true x238000 x238001 x249000 x249001 x260000 x260001))))) else (some false))))
def laws_FnExactKernelOf.j1 : Nat → Int → Bool → Int → List Int → Int → List Int → Int → List Int → Option (Bool)
  | 0, _, _, _, _, _, _, _, _ => none
  | k + 1, x5, x61, x238000, x238001, x249000, x249001, x260000, x260001 => if x61 = true then (some false) else ((laws_markMatrix.f k x260000 x260001 1).bind fun bt269 => ((laws_heldMatrix.f k x260000 bt269.2 1).bind fun t271 => (if t271 < 0 then (some false) else (if t271 = bt269.1 then ((laws_toMatrix.f k x238000 x238001).bind fun bt272 => ((impl_KernelOf.f k bt272.1 bt272.2).bind fun bt276 => ((laws_eqMatrix.f k bt276.1 bt276.2.1 x249000 x249001).bind fun t282 => (if t282 = true then (laws_FnExactKernelOf.j2 k bt269.1 (bt276.2.2 != x5) x260000 bt269.2) else (laws_FnExactKernelOf.j2 k bt269.1 true x260000 bt269.2))))) else (some false)))))
def laws_FnExactKernelOf.j2 : Nat → Int → Bool → Int → List Int → Option (Bool)
  | 0, _, _, _, _ => none
  | k + 1, x10, x87, x260000, x260001 => if x87 = true then (some false) else ((laws_heldMatrix.f k x260000 x260001 1).bind fun t283 => (if t283 < 0 then (some false) else (if t283 = x10 then (some true) else (some false))))
end
def laws_FnExactKernelOf.f (k : Nat) (a0_0 : Int) (l0_1 : List Int) : Option (Bool) := (laws_szMatrix.f a0_0 l0_1 1048576).bind fun t238 => (if t238 < 0 then (some true) else ((laws_toMatrix.f k a0_0 l0_1).bind fun bt239 => ((spec_KernelOf.f k bt239.1 bt239.2).bind fun bt243 => ((laws_toMatrix.f k a0_0 l0_1).bind fun bt249 => ((impl_KernelOf.f k bt249.1 bt249.2).bind fun bt254 => ((laws_eqMatrix.f k bt254.1 bt254.2.1 bt243.1 bt243.2.1).bind fun t260 => (if t260 = true then (laws_FnExactKernelOf.j0 k bt243.2.2 bt254.2.2 (bt254.2.2 != bt243.2.2) a0_0 l0_1 bt243.1 bt243.2.1 bt249.1 bt249.2 bt254.1 bt254.2.1) else (laws_FnExactKernelOf.j0 k bt243.2.2 bt254.2.2 true a0_0 l0_1 bt243.1 bt243.2.1 bt249.1 bt249.2 bt254.1 bt254.2.1))))))))
theorem laws_FnExactKernelOf.mono_l : ∀ k, (∀ y0 y1 y2 y3 y4 y5 y6 y7 y8 y9 y10, LeO (laws_FnExactKernelOf.j0 k y0 y1 y2 y3 y4 y5 y6 y7 y8 y9 y10) (laws_FnExactKernelOf.j0 (k + 1) y0 y1 y2 y3 y4 y5 y6 y7 y8 y9 y10)) ∧ (∀ y0 y1 y2 y3 y4 y5 y6 y7, LeO (laws_FnExactKernelOf.j1 k y0 y1 y2 y3 y4 y5 y6 y7) (laws_FnExactKernelOf.j1 (k + 1) y0 y1 y2 y3 y4 y5 y6 y7)) ∧ (∀ y0 y1 y2 y3, LeO (laws_FnExactKernelOf.j2 k y0 y1 y2 y3) (laws_FnExactKernelOf.j2 (k + 1) y0 y1 y2 y3))
 | 0 => ⟨fun _ _ _ _ _ _ _ _ _ _ _ r h => by simp [laws_FnExactKernelOf.j0] at h, fun _ _ _ _ _ _ _ _ r h => by simp [laws_FnExactKernelOf.j1] at h, fun _ _ _ _ r h => by simp [laws_FnExactKernelOf.j2] at h⟩
 | k + 1 => by
  obtain ⟨ih0, ih1, ih2⟩ := laws_FnExactKernelOf.mono_l k
  refine ⟨?_, ?_, ?_⟩
  ·intro y0 y1 y2 y3 y4 y5 y6 y7 y8 y9 y10
   unfold laws_FnExactKernelOf.j0
   repeat' first
   | (with_reducible first | exact ih0 _ _ _ _ _ _ _ _ _ _ _ | exact ih1 _ _ _ _ _ _ _ _ | exact ih2 _ _ _ _ | exact impl_KernelOf.mono _ _ _ | exact laws_eqMatrix.mono _ _ _ _ _ | exact laws_heldMatrix.mono _ _ _ _ | exact laws_markMatrix.mono _ _ _ _ | exact laws_toMatrix.mono _ _ _ | exact spec_KernelOf.mono _ _ _ | exact LeO.refl _ | exact LeO.none _ | refine LeO.ite ?_ ?_ | refine LeO.bind ?_ (fun _ => ?_))
   | exact LeO.none _
   | refine LeO.ite ?_ ?_
   | refine LeO.bind ?_ (fun _ => ?_)
  ·intro y0 y1 y2 y3 y4 y5 y6 y7
   unfold laws_FnExactKernelOf.j1
   repeat' first
   | (with_reducible first | exact ih0 _ _ _ _ _ _ _ _ _ _ _ | exact ih1 _ _ _ _ _ _ _ _ | exact ih2 _ _ _ _ | exact impl_KernelOf.mono _ _ _ | exact laws_eqMatrix.mono _ _ _ _ _ | exact laws_heldMatrix.mono _ _ _ _ | exact laws_markMatrix.mono _ _ _ _ | exact laws_toMatrix.mono _ _ _ | exact spec_KernelOf.mono _ _ _ | exact LeO.refl _ | exact LeO.none _ | refine LeO.ite ?_ ?_ | refine LeO.bind ?_ (fun _ => ?_))
   | exact LeO.none _
   | refine LeO.ite ?_ ?_
   | refine LeO.bind ?_ (fun _ => ?_)
  ·intro y0 y1 y2 y3
   unfold laws_FnExactKernelOf.j2
   repeat' first
   | (with_reducible first | exact ih0 _ _ _ _ _ _ _ _ _ _ _ | exact ih1 _ _ _ _ _ _ _ _ | exact ih2 _ _ _ _ | exact impl_KernelOf.mono _ _ _ | exact laws_eqMatrix.mono _ _ _ _ _ | exact laws_heldMatrix.mono _ _ _ _ | exact laws_markMatrix.mono _ _ _ _ | exact laws_toMatrix.mono _ _ _ | exact spec_KernelOf.mono _ _ _ | exact LeO.refl _ | exact LeO.none _ | refine LeO.ite ?_ ?_ | refine LeO.bind ?_ (fun _ => ?_))
   | exact LeO.none _
   | refine LeO.ite ?_ ?_
   | refine LeO.bind ?_ (fun _ => ?_)
theorem laws_FnExactKernelOf.mono : ∀ a0 a1 k, LeO (laws_FnExactKernelOf.f k a0 a1) (laws_FnExactKernelOf.f (k + 1) a0 a1) := by
 intro a0 a1 k
 obtain ⟨ih0, ih1, ih2⟩ := laws_FnExactKernelOf.mono_l k
 unfold laws_FnExactKernelOf.f
 repeat' first
  | (with_reducible first | exact ih0 _ _ _ _ _ _ _ _ _ _ _ | exact ih1 _ _ _ _ _ _ _ _ | exact ih2 _ _ _ _ | exact impl_KernelOf.mono _ _ _ | exact laws_eqMatrix.mono _ _ _ _ _ | exact laws_heldMatrix.mono _ _ _ _ | exact laws_markMatrix.mono _ _ _ _ | exact laws_toMatrix.mono _ _ _ | exact spec_KernelOf.mono _ _ _ | exact LeO.refl _ | exact LeO.none _ | refine LeO.ite ?_ ?_ | refine LeO.bind ?_ (fun _ => ?_))
  | exact LeO.none _
  | refine LeO.ite ?_ ?_
  | refine LeO.bind ?_ (fun _ => ?_)
set_option maxHeartbeats 8000000 in
set_option maxRecDepth 100000 in
theorem laws_FnExactKernelOf.calls (k : Nat) (a0_0 : Int) (A0_1 : Option Addr) (c0_1 : Nat) (l0_1 : List Int) (r : Bool) (w : World) (hr0_1 : Kd.C (Kd.int .i64) w A0_1 l0_1.length l0_1) (hc0_1 : l0_1.length ≤ c0_1) (h : laws_FnExactKernelOf.f k a0_0 l0_1 = some r) :
 Calls Try.prog 3 #[.agg #[.int .i64 a0_0, .slice A0_1 l0_1.length c0_1]] w fun e w' => e = .returned (.bool r) ∧ Below w.heap.size w w' := by
 have hu24 := Try.underlying24
 have hu26 := Try.underlying26
 have HR0_1 := Aq.mk hr0_1
 have HC0_1 := Aq.mk hc0_1
 clear hr0_1 hc0_1
 have HB := Aq.mk (Below.refl w.heap.size w)
 have H : ((laws_szMatrix.f a0_0 l0_1 1048576).bind fun t238 => (if t238 < 0 then (some true) else ((laws_toMatrix.f k a0_0 l0_1).bind fun bt239 => ((spec_KernelOf.f k bt239.1 bt239.2).bind fun bt243 => ((laws_toMatrix.f k a0_0 l0_1).bind fun bt249 => ((impl_KernelOf.f k bt249.1 bt249.2).bind fun bt254 => ((laws_eqMatrix.f k bt254.1 bt254.2.1 bt243.1 bt243.2.1).bind fun t260 => (if t260 = true then (laws_FnExactKernelOf.j0 k bt243.2.2 bt254.2.2 (bt254.2.2 != bt243.2.2) a0_0 l0_1 bt243.1 bt243.2.1 bt249.1 bt249.2 bt254.1 bt254.2.1) else (laws_FnExactKernelOf.j0 k bt243.2.2 bt254.2.2 true a0_0 l0_1 bt243.1 bt243.2.1 bt249.1 bt249.2 bt254.1 bt254.2.1))))))))) = some r := h
 clear h
 replace H := Option.bind_eq_some_iff.mp H
 obtain ⟨t238, A20, H⟩ := H
 replace H : (if t238 < 0 then (some true) else ((laws_toMatrix.f k a0_0 l0_1).bind fun bt239 => ((spec_KernelOf.f k bt239.1 bt239.2).bind fun bt243 => ((laws_toMatrix.f k a0_0 l0_1).bind fun bt249 => ((impl_KernelOf.f k bt249.1 bt249.2).bind fun bt254 => ((laws_eqMatrix.f k bt254.1 bt254.2.1 bt243.1 bt243.2.1).bind fun t260 => (if t260 = true then (laws_FnExactKernelOf.j0 k bt243.2.2 bt254.2.2 (bt254.2.2 != bt243.2.2) a0_0 l0_1 bt243.1 bt243.2.1 bt249.1 bt249.2 bt254.1 bt254.2.1) else (laws_FnExactKernelOf.j0 k bt243.2.2 bt254.2.2 true a0_0 l0_1 bt243.1 bt243.2.1 bt249.1 bt249.2 bt254.1 bt254.2.1)))))))) = some r := H
 have A2 := Aq.mk A20
 clear A20
 by_cases c3 : t238 < 0
 ·rw [if_pos c3] at H
  have c3b0 : decide (t238 < 0) = true := decide_eq_true c3
  clear c3
  obtain rfl := Option.some.inj H
  go_enter Try.func3, Try.ntmps3
  go_wp2_with (first | ((with_reducible refine gQd (N := 1) rfl ?_); refine xQe ?hg (N := 1) ?hd (cs := #[.int .i64 a0_0, .slice A0_1 l0_1.length c0_1]) (t := 24) ?hr ?_; (case hd => rfl); (case hg => rfl); (case hr => first | (go_simp; done) | (go_simp; rfl)); intro gb237 hg w4 hbox hb; have n0_ := Aq.mk (bQT (by repeat (first | (with_reducible first | exact HB.out | apply bQA | apply bQN | apply bQ1) | exact HB.out)) hb); have n1_ := Aq.mk (hbox); have n2_ := Aq.mk ((by rw [hg]; exact (bQZ (by repeat (first | (with_reducible first | exact HB.out | apply bQA | apply bQN | apply bQ1) | exact HB.out))) : w.heap.size ≤ gb237)); have n3_ := Aq.mk ((by rw [hg]; exact (bQZ (by repeat (first | (with_reducible first | exact HB.out | apply bQA | apply bQN | apply bQ1) | exact HB.out))) : w.heap.size ≤ gb237)); clear HB; have HB := n0_; have BK237 := n1_; have GW237 := n2_; have GE237 := n3_; clear n0_ n1_ n2_ n3_; clear hb hbox hg; have hcz5_0 : w4.cell? ⟨gb237, 0, none⟩ = some (.int .i64 a0_0) := (kQC BK237.out 0).trans rfl; have hcz5_1 : w4.cell? ⟨gb237, 1, none⟩ = some (.slice A0_1 l0_1.length c0_1) := (kQC BK237.out 1).trans rfl; have hfz5_0 := kQF BK237.out 0; have hfz5_1 := kQF BK237.out 1) | ((with_reducible refine gQc (f := 15) rfl ?_); refine goesL_ (some 16) rfl rfl Try.func15 (by kernel_rfl) rfl #[.agg #[.int .i64 a0_0, .slice A0_1 l0_1.length c0_1], .int .i64 1048576] rfl (by (try simp only [List.map_toArray, List.map_cons, List.map_nil]); first | done | rfl | (simp only [List.length_drop, List.length_take]; rfl)) ?_; (with_reducible refine (laws_szMatrix.calls a0_0 _ _ l0_1 1048576 t238 _ ?side1 ?side2 A2.out).mono ?_); (case side1 => repeat (first | exact (Kd.C_below HR0_1.out HB.out) | (with_reducible refine Kd.CqA ?_ _) | (with_reducible refine Kd.CqN ?_ _) | (with_reducible refine Kd.CqD ?_))); (case side2 => exact HC0_1.out); rintro e w6 ⟨rfl, hb⟩; refine ⟨_, rfl, ?_⟩; have n0_ := Aq.mk (kQB (g := gb237) (o := .cells #[.int .i64 a0_0, .slice A0_1 l0_1.length c0_1] 24 (0, 0)) (by (with_reducible repeat (first | refine kQN ?_ _ | refine kQD ?_ | refine kQA ?_ _)); exact BK237.out) hb); have n1_ := Aq.mk (bQT (by repeat (first | (with_reducible first | exact HB.out | apply bQA | apply bQN | apply bQ1 | refine bQS ?_ GE237.out) | exact HB.out)) hb); clear BK237; clear HB; have BK237 := n0_; have HB := n1_; clear n0_ n1_; (try clear hb); (try clear hb2); (try clear hk); (try clear hi)))
  go_ret
  exact ⟨by first | rfl | (simp [errW_none, errW_some] <;> rfl) | (simp [*, errW_none, errW_some] <;> rfl), by repeat (first | (with_reducible first | exact HB.out | apply bQA | apply bQN | apply bQ1 | refine bQS ?_ GE237.out) | exact HB.out)⟩
 ·rw [if_neg c3] at H
  have c3b0 : decide (t238 < 0) = false := decide_eq_false c3
  clear c3
  replace H := Option.bind_eq_some_iff.mp H
  obtain ⟨⟨t239, t240⟩, A70, H⟩ := H
  replace H : ((spec_KernelOf.f k t239 t240).bind fun bt243 => ((laws_toMatrix.f k a0_0 l0_1).bind fun bt249 => ((impl_KernelOf.f k bt249.1 bt249.2).bind fun bt254 => ((laws_eqMatrix.f k bt254.1 bt254.2.1 bt243.1 bt243.2.1).bind fun t260 => (if t260 = true then (laws_FnExactKernelOf.j0 k bt243.2.2 bt254.2.2 (bt254.2.2 != bt243.2.2) a0_0 l0_1 bt243.1 bt243.2.1 bt249.1 bt249.2 bt254.1 bt254.2.1) else (laws_FnExactKernelOf.j0 k bt243.2.2 bt254.2.2 true a0_0 l0_1 bt243.1 bt243.2.1 bt249.1 bt249.2 bt254.1 bt254.2.1)))))) = some r := H
  have A7 := Aq.mk A70
  clear A70
  replace H := Option.bind_eq_some_iff.mp H
  obtain ⟨⟨t243, t244, t247⟩, A80, H⟩ := H
  replace H : ((laws_toMatrix.f k a0_0 l0_1).bind fun bt249 => ((impl_KernelOf.f k bt249.1 bt249.2).bind fun bt254 => ((laws_eqMatrix.f k bt254.1 bt254.2.1 t243 t244).bind fun t260 => (if t260 = true then (laws_FnExactKernelOf.j0 k t247 bt254.2.2 (bt254.2.2 != t247) a0_0 l0_1 t243 t244 bt249.1 bt249.2 bt254.1 bt254.2.1) else (laws_FnExactKernelOf.j0 k t247 bt254.2.2 true a0_0 l0_1 t243 t244 bt249.1 bt249.2 bt254.1 bt254.2.1))))) = some r := H
  have A8 := Aq.mk A80
  clear A80
  replace H := Option.bind_eq_some_iff.mp H
  obtain ⟨⟨t249, t250⟩, A90, H⟩ := H
  replace H : ((impl_KernelOf.f k t249 t250).bind fun bt254 => ((laws_eqMatrix.f k bt254.1 bt254.2.1 t243 t244).bind fun t260 => (if t260 = true then (laws_FnExactKernelOf.j0 k t247 bt254.2.2 (bt254.2.2 != t247) a0_0 l0_1 t243 t244 t249 t250 bt254.1 bt254.2.1) else (laws_FnExactKernelOf.j0 k t247 bt254.2.2 true a0_0 l0_1 t243 t244 t249 t250 bt254.1 bt254.2.1)))) = some r := H
  have A9 := Aq.mk A90
  clear A90
  replace H := Option.bind_eq_some_iff.mp H
  obtain ⟨⟨t254, t255, t258⟩, A100, H⟩ := H
  replace H : ((laws_eqMatrix.f k t254 t255 t243 t244).bind fun t260 => (if t260 = true then (laws_FnExactKernelOf.j0 k t247 t258 (t258 != t247) a0_0 l0_1 t243 t244 t249 t250 t254 t255) else (laws_FnExactKernelOf.j0 k t247 t258 true a0_0 l0_1 t243 t244 t249 t250 t254 t255))) = some r := H
  have A10 := Aq.mk A100
  clear A100
  have HC11 := Aq.mk H
  clear H
  go_enter Try.func3, Try.ntmps3
  go_upto_region 8 with (first | ((with_reducible refine gQd (N := 1) rfl ?_); refine xQe ?hg (N := 1) ?hd (cs := #[.int .i64 a0_0, .slice A0_1 l0_1.length c0_1]) (t := 24) ?hr ?_; (case hd => rfl); (case hg => rfl); (case hr => first | (go_simp; done) | (go_simp; rfl)); intro gb237 hg w12 hbox hb; have n0_ := Aq.mk (bQT (by repeat (first | (with_reducible first | exact HB.out | apply bQA | apply bQN | apply bQ1) | exact HB.out)) hb); have n1_ := Aq.mk (hbox); have n2_ := Aq.mk ((by rw [hg]; exact (bQZ (by repeat (first | (with_reducible first | exact HB.out | apply bQA | apply bQN | apply bQ1) | exact HB.out))) : w.heap.size ≤ gb237)); have n3_ := Aq.mk ((by rw [hg]; exact (bQZ (by repeat (first | (with_reducible first | exact HB.out | apply bQA | apply bQN | apply bQ1) | exact HB.out))) : w.heap.size ≤ gb237)); clear HB; have HB := n0_; have BK237 := n1_; have GW237 := n2_; have GE237 := n3_; clear n0_ n1_ n2_ n3_; clear hb hbox hg; have hcz13_0 : w12.cell? ⟨gb237, 0, none⟩ = some (.int .i64 a0_0) := (kQC BK237.out 0).trans rfl; have hcz13_1 : w12.cell? ⟨gb237, 1, none⟩ = some (.slice A0_1 l0_1.length c0_1) := (kQC BK237.out 1).trans rfl; have hfz13_0 := kQF BK237.out 0; have hfz13_1 := kQF BK237.out 1) | ((with_reducible refine gQc (f := 15) rfl ?_); refine goesL_ (some 16) rfl rfl Try.func15 (by kernel_rfl) rfl #[.agg #[.int .i64 a0_0, .slice A0_1 l0_1.length c0_1], .int .i64 1048576] rfl (by (try simp only [List.map_toArray, List.map_cons, List.map_nil]); first | done | rfl | (simp only [List.length_drop, List.length_take]; rfl)) ?_; (with_reducible refine (laws_szMatrix.calls a0_0 _ _ l0_1 1048576 t238 _ ?side1 ?side2 A2.out).mono ?_); (case side1 => repeat (first | exact (Kd.C_below HR0_1.out HB.out) | (with_reducible refine Kd.CqA ?_ _) | (with_reducible refine Kd.CqN ?_ _) | (with_reducible refine Kd.CqD ?_))); (case side2 => exact HC0_1.out); rintro e w14 ⟨rfl, hb⟩; refine ⟨_, rfl, ?_⟩; have n0_ := Aq.mk (kQB (g := gb237) (o := .cells #[.int .i64 a0_0, .slice A0_1 l0_1.length c0_1] 24 (0, 0)) (by (with_reducible repeat (first | refine kQN ?_ _ | refine kQD ?_ | refine kQA ?_ _)); exact BK237.out) hb); have n1_ := Aq.mk (bQT (by repeat (first | (with_reducible first | exact HB.out | apply bQA | apply bQN | apply bQ1 | refine bQS ?_ GE237.out) | exact HB.out)) hb); clear BK237; clear HB; have BK237 := n0_; have HB := n1_; clear n0_ n1_; (try clear hb); (try clear hb2); (try clear hk); (try clear hi); have hcz15_0 : w14.cell? ⟨gb237, 0, none⟩ = some (.int .i64 a0_0) := (kQC BK237.out 0).trans rfl; have hcz15_1 : w14.cell? ⟨gb237, 1, none⟩ = some (.slice A0_1 l0_1.length c0_1) := (kQC BK237.out 1).trans rfl; have hfz15_0 := kQF BK237.out 0; have hfz15_1 := kQF BK237.out 1) | ((with_reducible refine gQc (f := 17) rfl ?_); refine goesL_ (some 21) rfl rfl Try.func17 (by kernel_rfl) rfl #[.agg #[.int .i64 a0_0, .slice A0_1 l0_1.length c0_1]] rfl (by (try simp only [List.map_toArray, List.map_cons, List.map_nil]); first | done | rfl | (simp only [List.length_drop, List.length_take]; rfl)) ?_; (with_reducible refine (laws_toMatrix.calls k a0_0 _ _ l0_1 t239 t240 _ ?side1 ?side2 A7.out).mono ?_); (case side1 => repeat (first | exact (Kd.C_below HR0_1.out HB.out) | (with_reducible refine Kd.CqA ?_ _) | (with_reducible refine Kd.CqN ?_ _) | (with_reducible refine Kd.CqD ?_))); (case side2 => exact HC0_1.out); rintro e w16 ⟨v241, rfl, ho0, hb⟩; refine ⟨_, rfl, ?_⟩; have n0_ := Aq.mk (Kd.R_lower ho0 (bQZ (by repeat (first | (with_reducible first | exact HB.out | apply bQA | apply bQN | apply bQ1 | refine bQS ?_ GE237.out) | exact HB.out)))); have n1_ := Aq.mk (kQB (g := gb237) (o := .cells #[.int .i64 a0_0, .slice A0_1 l0_1.length c0_1] 24 (0, 0)) (by (with_reducible repeat (first | refine kQN ?_ _ | refine kQD ?_ | refine kQA ?_ _)); exact BK237.out) hb); have n2_ := Aq.mk (bQT (by repeat (first | (with_reducible first | exact HB.out | apply bQA | apply bQN | apply bQ1 | refine bQS ?_ GE237.out) | exact HB.out)) hb); clear BK237; clear HB; have HO242 := n0_; have BK237 := n1_; have HB := n2_; clear n0_ n1_ n2_; (try clear hb); (try clear hb2); (try clear hk); (try clear hi); (try clear ho0); obtain ⟨Ao17, co17, eo17⟩ := Kd.R_slice HO242.out; subst eo17) | ((with_reducible refine gQc (f := 16) rfl ?_); refine goesL_ (some 22) rfl rfl Try.func16 (by kernel_rfl) rfl #[.agg #[.int .i64 t239, .slice Ao17 t240.length co17]] rfl (by (try simp only [List.map_toArray, List.map_cons, List.map_nil]); first | done | rfl | (simp only [List.length_drop, List.length_take]; rfl)) ?_; (with_reducible refine (spec_KernelOf.calls k t239 _ _ t240 t243 t244 t247 _ ?side1 ?side2 A8.out).mono ?_); (case side1 => repeat (first | exact (Kd.R_reads' HO242.out).2.2 | (with_reducible refine Kd.CqA ?_ _) | (with_reducible refine Kd.CqN ?_ _) | (with_reducible refine Kd.CqD ?_))); (case side2 => exact (Kd.R_reads' HO242.out).2.1); rintro e w18 ⟨v245, rfl, ho0, hb⟩; refine ⟨_, rfl, ?_⟩; have n0_ := Aq.mk (Kd.R_elder' (by (with_reducible repeat (first | apply Kd.RqA | apply Kd.RqN | apply Kd.RqD)); exact HO242.out) (Kd.R_base ho0) hb); have n1_ := Aq.mk (Kd.R_lower (Kd.R_new' ho0 (Kd.R_lt (by (with_reducible repeat (first | apply Kd.RqA | apply Kd.RqN | apply Kd.RqD)); exact HO242.out))) (bQZ (by repeat (first | (with_reducible first | exact HB.out | apply bQA | apply bQN | apply bQ1 | refine bQS ?_ GE237.out) | exact HB.out)))); have n2_ := Aq.mk (kQB (g := gb237) (o := .cells #[.int .i64 a0_0, .slice A0_1 l0_1.length c0_1] 24 (0, 0)) (by (with_reducible repeat (first | refine kQN ?_ _ | refine kQD ?_ | refine kQA ?_ _)); exact BK237.out) hb); have n3_ := Aq.mk (bQT (by repeat (first | (with_reducible first | exact HB.out | apply bQA | apply bQN | apply bQ1 | refine bQS ?_ GE237.out) | exact HB.out)) hb); clear HO242; clear BK237; clear HB; have HO242 := n0_; have HO246 := n1_; have BK237 := n2_; have HB := n3_; clear n0_ n1_ n2_ n3_; (try clear hb); (try clear hb2); (try clear hk); (try clear hi); (try clear ho0)) | ((with_reducible refine gQd (N := 4) rfl ?_); refine xQe ?hg (N := 4) ?hd (cs := #[.int .i64 0, .slice none 0 0]) (t := 26) ?hr ?_; (case hd => rfl); (case hg => rfl); (case hr => first | (go_simp; done) | (go_simp; rfl)); intro gb248 hg w19 hbox hb; have n0_ := Aq.mk (Kd.R_below (by (with_reducible repeat (first | apply Kd.RqA | apply Kd.RqN | apply Kd.RqD)); exact HO242.out) hb); have n1_ := Aq.mk (Kd.R_below (by (with_reducible repeat (first | apply Kd.RqA | apply Kd.RqN | apply Kd.RqD)); exact HO246.out) hb); have n2_ := Aq.mk (kQB (g := gb237) (o := .cells #[.int .i64 a0_0, .slice A0_1 l0_1.length c0_1] 24 (0, 0)) (by (with_reducible repeat (first | refine kQN ?_ _ | refine kQD ?_ | refine kQA ?_ _)); exact BK237.out) hb); have n3_ := Aq.mk (bQT (by repeat (first | (with_reducible first | exact HB.out | apply bQA | apply bQN | apply bQ1 | refine bQS ?_ GE237.out) | exact HB.out)) hb); have n4_ := Aq.mk (hbox); have n5_ := Aq.mk ((by rw [hg]; exact (bQZ (by repeat (first | (with_reducible first | exact HB.out | apply bQA | apply bQN | apply bQ1 | refine bQS ?_ GE237.out) | exact HB.out))) : w.heap.size ≤ gb248)); have n6_ := Aq.mk ((by rw [hg]; exact (bQZ (by repeat (first | (with_reducible first | exact HB.out | apply bQA | apply bQN | apply bQ1 | refine bQS ?_ GE237.out) | exact HB.out))) : w.heap.size ≤ gb248)); have n7_ := Aq.mk ((by rw [hg]; exact Nat.ne_of_lt (blk_lt (g := gb237) (o := .cells #[.int .i64 a0_0, .slice A0_1 l0_1.length c0_1] 24 (0, 0)) (by (with_reducible repeat (first | refine kQN ?_ _ | refine kQD ?_ | refine kQA ?_ _)); exact BK237.out)) : gb237 ≠ gb248)); have n8_ := Aq.mk ((by rw [hg]; exact Nat.ne_of_gt (blk_lt (g := gb237) (o := .cells #[.int .i64 a0_0, .slice A0_1 l0_1.length c0_1] 24 (0, 0)) (by (with_reducible repeat (first | refine kQN ?_ _ | refine kQD ?_ | refine kQA ?_ _)); exact BK237.out)) : gb248 ≠ gb237)); clear HO242; clear HO246; clear BK237; clear HB; have HO242 := n0_; have HO246 := n1_; have BK237 := n2_; have HB := n3_; have BK248 := n4_; have GW248 := n5_; have GE248 := n6_; have NB237_248 := n7_; have NB248_237 := n8_; clear n0_ n1_ n2_ n3_ n4_ n5_ n6_ n7_ n8_; clear hb hbox hg; have hnb20 := NB248_237.out; have hnc20 := NB237_248.out; have hcz21_0 : w19.cell? ⟨gb248, 0, none⟩ = some (.int .i64 0) := (kQC BK248.out 0).trans rfl; have hcz21_1 : w19.cell? ⟨gb248, 1, none⟩ = some (.slice none 0 0) := (kQC BK248.out 1).trans rfl; have hfz21_0 := kQF BK248.out 0; have hfz21_1 := kQF BK248.out 1; obtain ⟨Ao22, co22, eo22⟩ := Kd.R_slice HO246.out; subst eo22; have hcz23_0 : w19.cell? ⟨gb237, 0, none⟩ = some (.int .i64 a0_0) := (kQC BK237.out 0).trans rfl; have hcz23_1 : w19.cell? ⟨gb237, 1, none⟩ = some (.slice A0_1 l0_1.length c0_1) := (kQC BK237.out 1).trans rfl; have hfz23_0 := kQF BK237.out 0; have hfz23_1 := kQF BK237.out 1) | ((with_reducible refine gQc (f := 17) rfl ?_); refine goesL_ (some 26) rfl rfl Try.func17 (by kernel_rfl) rfl #[.agg #[.int .i64 a0_0, .slice A0_1 l0_1.length c0_1]] rfl (by (try simp only [List.map_toArray, List.map_cons, List.map_nil]); first | done | rfl | (simp only [List.length_drop, List.length_take]; rfl)) ?_; (with_reducible refine (laws_toMatrix.calls k a0_0 _ _ l0_1 t249 t250 _ ?side1 ?side2 A9.out).mono ?_); (case side1 => exact Kd.C_below HR0_1.out (by repeat (first | (with_reducible first | exact HB.out | apply bQA | apply bQN | apply bQ1 | refine bQS ?_ GE237.out | refine bQS ?_ GE248.out) | exact HB.out))); (case side2 => exact HC0_1.out); rintro e w24 ⟨v251, rfl, ho0, hb⟩; refine ⟨_, rfl, ?_⟩; have n0_ := Aq.mk (Kd.R_elder' (by (with_reducible repeat (first | apply Kd.RqA | apply Kd.RqN | apply Kd.RqD)); exact (Kd.R_mono (Kd.R_far (p := ⟨gb248, 1, none⟩) (Kd.R_far (p := ⟨gb248, 0, none⟩) (Kd.R_types HO242.out BK248.out (by decide)) (fun _ hk => hk.2) (.int .i64 t243)) (fun _ hk => hk.2) (.slice Ao22 t244.length co22)) (fun _ h_ => h_.1))) (Kd.R_base ho0) hb); have n1_ := Aq.mk (Kd.R_elder' (by (with_reducible repeat (first | apply Kd.RqA | apply Kd.RqN | apply Kd.RqD)); exact (Kd.R_mono (Kd.R_far (p := ⟨gb248, 1, none⟩) (Kd.R_far (p := ⟨gb248, 0, none⟩) (Kd.R_types HO246.out BK248.out (by decide)) (fun _ hk => hk.2) (.int .i64 t243)) (fun _ hk => hk.2) (.slice Ao22 t244.length co22)) (fun _ h_ => h_.1))) (Kd.R_base ho0) hb); have n2_ := Aq.mk (Kd.R_lower (Kd.R_new' (Kd.R_new' ho0 (Kd.R_lt (by (with_reducible repeat (first | apply Kd.RqA | apply Kd.RqN | apply Kd.RqD)); exact (Kd.R_mono (Kd.R_far (p := ⟨gb248, 1, none⟩) (Kd.R_far (p := ⟨gb248, 0, none⟩) (Kd.R_types HO242.out BK248.out (by decide)) (fun _ hk => hk.2) (.int .i64 t243)) (fun _ hk => hk.2) (.slice Ao22 t244.length co22)) (fun _ h_ => h_.1))))) (Kd.R_lt (by (with_reducible repeat (first | apply Kd.RqA | apply Kd.RqN | apply Kd.RqD)); exact (Kd.R_mono (Kd.R_far (p := ⟨gb248, 1, none⟩) (Kd.R_far (p := ⟨gb248, 0, none⟩) (Kd.R_types HO246.out BK248.out (by decide)) (fun _ hk => hk.2) (.int .i64 t243)) (fun _ hk => hk.2) (.slice Ao22 t244.length co22)) (fun _ h_ => h_.1))))) (bQZ (by repeat (first | (with_reducible first | exact HB.out | apply bQA | apply bQN | apply bQ1 | refine bQS ?_ GE237.out | refine bQS ?_ GE248.out) | exact HB.out)))); have n3_ := Aq.mk (kQB (g := gb237) (o := .cells #[.int .i64 a0_0, .slice A0_1 l0_1.length c0_1] 24 (0, 0)) (by (with_reducible repeat (first | refine kQN ?_ _ | refine kQD ?_ | refine kQA ?_ _)); refine kQR ?_ NB237_248.out _; (with_reducible repeat (first | refine kQN ?_ _ | refine kQD ?_ | refine kQA ?_ _)); refine kQR ?_ NB237_248.out _; (with_reducible repeat (first | refine kQN ?_ _ | refine kQD ?_ | refine kQA ?_ _)); exact BK237.out) hb); have n4_ := Aq.mk (kQB (g := gb248) (o := .cells #[.int .i64 t243, .slice Ao22 t244.length co22] 26 (0, 0)) (by (with_reducible repeat (first | refine kQN ?_ _ | refine kQD ?_ | refine kQA ?_ _)); refine kQP (cs := #[.int .i64 t243, .slice none 0 0]) ?_ 1 _ rfl; (with_reducible repeat (first | refine kQN ?_ _ | refine kQD ?_ | refine kQA ?_ _)); refine kQP (cs := #[.int .i64 0, .slice none 0 0]) ?_ 0 _ rfl; (with_reducible repeat (first | refine kQN ?_ _ | refine kQD ?_ | refine kQA ?_ _)); exact BK248.out) hb); have n5_ := Aq.mk (bQT (by repeat (first | (with_reducible first | exact HB.out | apply bQA | apply bQN | apply bQ1 | refine bQS ?_ GE237.out | refine bQS ?_ GE248.out) | exact HB.out)) hb); clear HO242; clear HO246; clear BK237; clear BK248; clear HB; have HO242 := n0_; have HO246 := n1_; have HO252 := n2_; have BK237 := n3_; have BK248 := n4_; have HB := n5_; clear n0_ n1_ n2_ n3_ n4_ n5_; (try clear hb); (try clear hb2); (try clear hk); (try clear hi); (try clear ho0)) | ((with_reducible refine gQd (N := 6) rfl ?_); refine xQe ?hg (N := 6) ?hd (cs := #[.int .i64 0, .slice none 0 0]) (t := 26) ?hr ?_; (case hd => rfl); (case hg => rfl); (case hr => first | (go_simp; done) | (go_simp; rfl)); intro gb253 hg w25 hbox hb; have n0_ := Aq.mk (Kd.R_below (by (with_reducible repeat (first | apply Kd.RqA | apply Kd.RqN | apply Kd.RqD)); exact HO242.out) hb); have n1_ := Aq.mk (Kd.R_below (by (with_reducible repeat (first | apply Kd.RqA | apply Kd.RqN | apply Kd.RqD)); exact HO246.out) hb); have n2_ := Aq.mk (Kd.R_below (by (with_reducible repeat (first | apply Kd.RqA | apply Kd.RqN | apply Kd.RqD)); exact HO252.out) hb); have n3_ := Aq.mk (kQB (g := gb237) (o := .cells #[.int .i64 a0_0, .slice A0_1 l0_1.length c0_1] 24 (0, 0)) (by (with_reducible repeat (first | refine kQN ?_ _ | refine kQD ?_ | refine kQA ?_ _)); exact BK237.out) hb); have n4_ := Aq.mk (kQB (g := gb248) (o := .cells #[.int .i64 t243, .slice Ao22 t244.length co22] 26 (0, 0)) (by (with_reducible repeat (first | refine kQN ?_ _ | refine kQD ?_ | refine kQA ?_ _)); exact BK248.out) hb); have n5_ := Aq.mk (bQT (by repeat (first | (with_reducible first | exact HB.out | apply bQA | apply bQN | apply bQ1 | refine bQS ?_ GE237.out | refine bQS ?_ GE248.out) | exact HB.out)) hb); have n6_ := Aq.mk (hbox); have n7_ := Aq.mk ((by rw [hg]; exact (bQZ (by repeat (first | (with_reducible first | exact HB.out | apply bQA | apply bQN | apply bQ1 | refine bQS ?_ GE237.out | refine bQS ?_ GE248.out) | exact HB.out))) : w.heap.size ≤ gb253)); have n8_ := Aq.mk ((by rw [hg]; exact (bQZ (by repeat (first | (with_reducible first | exact HB.out | apply bQA | apply bQN | apply bQ1 | refine bQS ?_ GE237.out | refine bQS ?_ GE248.out) | exact HB.out))) : w.heap.size ≤ gb253)); have n9_ := Aq.mk ((by rw [hg]; exact Nat.ne_of_lt (blk_lt (g := gb237) (o := .cells #[.int .i64 a0_0, .slice A0_1 l0_1.length c0_1] 24 (0, 0)) (by (with_reducible repeat (first | refine kQN ?_ _ | refine kQD ?_ | refine kQA ?_ _)); exact BK237.out)) : gb237 ≠ gb253)); have n10_ := Aq.mk ((by rw [hg]; exact Nat.ne_of_gt (blk_lt (g := gb237) (o := .cells #[.int .i64 a0_0, .slice A0_1 l0_1.length c0_1] 24 (0, 0)) (by (with_reducible repeat (first | refine kQN ?_ _ | refine kQD ?_ | refine kQA ?_ _)); exact BK237.out)) : gb253 ≠ gb237)); have n11_ := Aq.mk ((by rw [hg]; exact Nat.ne_of_lt (blk_lt (g := gb248) (o := .cells #[.int .i64 t243, .slice Ao22 t244.length co22] 26 (0, 0)) (by (with_reducible repeat (first | refine kQN ?_ _ | refine kQD ?_ | refine kQA ?_ _)); exact BK248.out)) : gb248 ≠ gb253)); have n12_ := Aq.mk ((by rw [hg]; exact Nat.ne_of_gt (blk_lt (g := gb248) (o := .cells #[.int .i64 t243, .slice Ao22 t244.length co22] 26 (0, 0)) (by (with_reducible repeat (first | refine kQN ?_ _ | refine kQD ?_ | refine kQA ?_ _)); exact BK248.out)) : gb253 ≠ gb248)); clear HO242; clear HO246; clear HO252; clear BK237; clear BK248; clear HB; have HO242 := n0_; have HO246 := n1_; have HO252 := n2_; have BK237 := n3_; have BK248 := n4_; have HB := n5_; have BK253 := n6_; have GW253 := n7_; have GE253 := n8_; have NB237_253 := n9_; have NB253_237 := n10_; have NB248_253 := n11_; have NB253_248 := n12_; clear n0_ n1_ n2_ n3_ n4_ n5_ n6_ n7_ n8_ n9_ n10_ n11_ n12_; clear hb hbox hg; have hnb26 := NB253_237.out; have hnc26 := NB237_253.out; have hnb27 := NB253_248.out; have hnc27 := NB248_253.out; have hcz28_0 : w25.cell? ⟨gb253, 0, none⟩ = some (.int .i64 0) := (kQC BK253.out 0).trans rfl; have hcz28_1 : w25.cell? ⟨gb253, 1, none⟩ = some (.slice none 0 0) := (kQC BK253.out 1).trans rfl; have hfz28_0 := kQF BK253.out 0; have hfz28_1 := kQF BK253.out 1; obtain ⟨Ao29, co29, eo29⟩ := Kd.R_slice HO252.out; subst eo29) | ((with_reducible refine gQc (f := 18) rfl ?_); refine goesL_ (some 29) rfl rfl Try.func18 (by kernel_rfl) rfl #[.agg #[.int .i64 t249, .slice Ao29 t250.length co29]] rfl (by (try simp only [List.map_toArray, List.map_cons, List.map_nil]); first | done | rfl | (simp only [List.length_drop, List.length_take]; rfl)) ?_; (with_reducible refine (impl_KernelOf.calls k t249 _ _ t250 t254 t255 t258 _ ?side1 ?side2 A10.out).mono ?_); (case side1 => refine (Kd.R_reads' (e := 2) (base := w.heap.size) (ok := fun k_ => ((True ∧ some k_ ≠ (.slice Ao17 t240.length co17 : Value).ownBlock) ∧ some k_ ≠ (.slice Ao22 t244.length co22 : Value).ownBlock)) (n := t250.length) (c := co29) ?_).2.2; exact (by (with_reducible repeat (first | apply Kd.RqA | apply Kd.RqN | apply Kd.RqD)); exact (Kd.R_mono (Kd.R_far (p := ⟨gb253, 1, none⟩) (Kd.R_far (p := ⟨gb253, 0, none⟩) (Kd.R_types HO252.out BK253.out (by decide)) (fun _ hk => hk.2) (.int .i64 t249)) (fun _ hk => hk.2) (.slice Ao29 t250.length co29)) (fun _ h_ => h_.1)))); (case side2 => exact (Kd.R_reads' HO252.out).2.1); rintro e w30 ⟨v256, rfl, ho0, hb⟩; refine ⟨_, rfl, ?_⟩; have n0_ := Aq.mk (Kd.R_elder' (by (with_reducible repeat (first | apply Kd.RqA | apply Kd.RqN | apply Kd.RqD)); exact (Kd.R_mono (Kd.R_far (p := ⟨gb253, 1, none⟩) (Kd.R_far (p := ⟨gb253, 0, none⟩) (Kd.R_types HO242.out BK253.out (by decide)) (fun _ hk => hk.2) (.int .i64 t249)) (fun _ hk => hk.2) (.slice Ao29 t250.length co29)) (fun _ h_ => h_.1))) (Kd.R_base ho0) hb); have n1_ := Aq.mk (Kd.R_elder' (by (with_reducible repeat (first | apply Kd.RqA | apply Kd.RqN | apply Kd.RqD)); exact (Kd.R_mono (Kd.R_far (p := ⟨gb253, 1, none⟩) (Kd.R_far (p := ⟨gb253, 0, none⟩) (Kd.R_types HO246.out BK253.out (by decide)) (fun _ hk => hk.2) (.int .i64 t249)) (fun _ hk => hk.2) (.slice Ao29 t250.length co29)) (fun _ h_ => h_.1))) (Kd.R_base ho0) hb); have n2_ := Aq.mk (Kd.R_elder' (by (with_reducible repeat (first | apply Kd.RqA | apply Kd.RqN | apply Kd.RqD)); exact (Kd.R_mono (Kd.R_far (p := ⟨gb253, 1, none⟩) (Kd.R_far (p := ⟨gb253, 0, none⟩) (Kd.R_types HO252.out BK253.out (by decide)) (fun _ hk => hk.2) (.int .i64 t249)) (fun _ hk => hk.2) (.slice Ao29 t250.length co29)) (fun _ h_ => h_.1))) (Kd.R_base ho0) hb); have n3_ := Aq.mk (Kd.R_lower (Kd.R_new' (Kd.R_new' (Kd.R_new' ho0 (Kd.R_lt (by (with_reducible repeat (first | apply Kd.RqA | apply Kd.RqN | apply Kd.RqD)); exact (Kd.R_mono (Kd.R_far (p := ⟨gb253, 1, none⟩) (Kd.R_far (p := ⟨gb253, 0, none⟩) (Kd.R_types HO242.out BK253.out (by decide)) (fun _ hk => hk.2) (.int .i64 t249)) (fun _ hk => hk.2) (.slice Ao29 t250.length co29)) (fun _ h_ => h_.1))))) (Kd.R_lt (by (with_reducible repeat (first | apply Kd.RqA | apply Kd.RqN | apply Kd.RqD)); exact (Kd.R_mono (Kd.R_far (p := ⟨gb253, 1, none⟩) (Kd.R_far (p := ⟨gb253, 0, none⟩) (Kd.R_types HO246.out BK253.out (by decide)) (fun _ hk => hk.2) (.int .i64 t249)) (fun _ hk => hk.2) (.slice Ao29 t250.length co29)) (fun _ h_ => h_.1))))) (Kd.R_lt (by (with_reducible repeat (first | apply Kd.RqA | apply Kd.RqN | apply Kd.RqD)); exact (Kd.R_mono (Kd.R_far (p := ⟨gb253, 1, none⟩) (Kd.R_far (p := ⟨gb253, 0, none⟩) (Kd.R_types HO252.out BK253.out (by decide)) (fun _ hk => hk.2) (.int .i64 t249)) (fun _ hk => hk.2) (.slice Ao29 t250.length co29)) (fun _ h_ => h_.1))))) (bQZ (by repeat (first | (with_reducible first | exact HB.out | apply bQA | apply bQN | apply bQ1 | refine bQS ?_ GE237.out | refine bQS ?_ GE248.out | refine bQS ?_ GE253.out) | exact HB.out)))); have n4_ := Aq.mk (kQB (g := gb237) (o := .cells #[.int .i64 a0_0, .slice A0_1 l0_1.length c0_1] 24 (0, 0)) (by (with_reducible repeat (first | refine kQN ?_ _ | refine kQD ?_ | refine kQA ?_ _)); refine kQR ?_ NB237_253.out _; (with_reducible repeat (first | refine kQN ?_ _ | refine kQD ?_ | refine kQA ?_ _)); refine kQR ?_ NB237_253.out _; (with_reducible repeat (first | refine kQN ?_ _ | refine kQD ?_ | refine kQA ?_ _)); exact BK237.out) hb); have n5_ := Aq.mk (kQB (g := gb248) (o := .cells #[.int .i64 t243, .slice Ao22 t244.length co22] 26 (0, 0)) (by (with_reducible repeat (first | refine kQN ?_ _ | refine kQD ?_ | refine kQA ?_ _)); refine kQR ?_ NB248_253.out _; (with_reducible repeat (first | refine kQN ?_ _ | refine kQD ?_ | refine kQA ?_ _)); refine kQR ?_ NB248_253.out _; (with_reducible repeat (first | refine kQN ?_ _ | refine kQD ?_ | refine kQA ?_ _)); exact BK248.out) hb); have n6_ := Aq.mk (kQB (g := gb253) (o := .cells #[.int .i64 t249, .slice Ao29 t250.length co29] 26 (0, 0)) (by (with_reducible repeat (first | refine kQN ?_ _ | refine kQD ?_ | refine kQA ?_ _)); refine kQP (cs := #[.int .i64 t249, .slice none 0 0]) ?_ 1 _ rfl; (with_reducible repeat (first | refine kQN ?_ _ | refine kQD ?_ | refine kQA ?_ _)); refine kQP (cs := #[.int .i64 0, .slice none 0 0]) ?_ 0 _ rfl; (with_reducible repeat (first | refine kQN ?_ _ | refine kQD ?_ | refine kQA ?_ _)); exact BK253.out) hb); have n7_ := Aq.mk (bQT (by repeat (first | (with_reducible first | exact HB.out | apply bQA | apply bQN | apply bQ1 | refine bQS ?_ GE237.out | refine bQS ?_ GE248.out | refine bQS ?_ GE253.out) | exact HB.out)) hb); clear HO242; clear HO246; clear HO252; clear BK237; clear BK248; clear BK253; clear HB; have HO242 := n0_; have HO246 := n1_; have HO252 := n2_; have HO257 := n3_; have BK237 := n4_; have BK248 := n5_; have BK253 := n6_; have HB := n7_; clear n0_ n1_ n2_ n3_ n4_ n5_ n6_ n7_; (try clear hb); (try clear hb2); (try clear hk); (try clear hi); (try clear ho0)) | ((with_reducible refine gQd (N := 7) rfl ?_); refine xQe ?hg (N := 7) ?hd (cs := #[.int .i64 0, .slice none 0 0]) (t := 26) ?hr ?_; (case hd => rfl); (case hg => rfl); (case hr => first | (go_simp; done) | (go_simp; rfl)); intro gb259 hg w31 hbox hb; have n0_ := Aq.mk (Kd.R_below (by (with_reducible repeat (first | apply Kd.RqA | apply Kd.RqN | apply Kd.RqD)); exact HO242.out) hb); have n1_ := Aq.mk (Kd.R_below (by (with_reducible repeat (first | apply Kd.RqA | apply Kd.RqN | apply Kd.RqD)); exact HO246.out) hb); have n2_ := Aq.mk (Kd.R_below (by (with_reducible repeat (first | apply Kd.RqA | apply Kd.RqN | apply Kd.RqD)); exact HO252.out) hb); have n3_ := Aq.mk (Kd.R_below (by (with_reducible repeat (first | apply Kd.RqA | apply Kd.RqN | apply Kd.RqD)); exact HO257.out) hb); have n4_ := Aq.mk (kQB (g := gb237) (o := .cells #[.int .i64 a0_0, .slice A0_1 l0_1.length c0_1] 24 (0, 0)) (by (with_reducible repeat (first | refine kQN ?_ _ | refine kQD ?_ | refine kQA ?_ _)); exact BK237.out) hb); have n5_ := Aq.mk (kQB (g := gb248) (o := .cells #[.int .i64 t243, .slice Ao22 t244.length co22] 26 (0, 0)) (by (with_reducible repeat (first | refine kQN ?_ _ | refine kQD ?_ | refine kQA ?_ _)); exact BK248.out) hb); have n6_ := Aq.mk (kQB (g := gb253) (o := .cells #[.int .i64 t249, .slice Ao29 t250.length co29] 26 (0, 0)) (by (with_reducible repeat (first | refine kQN ?_ _ | refine kQD ?_ | refine kQA ?_ _)); exact BK253.out) hb); have n7_ := Aq.mk (bQT (by repeat (first | (with_reducible first | exact HB.out | apply bQA | apply bQN | apply bQ1 | refine bQS ?_ GE237.out | refine bQS ?_ GE248.out | refine bQS ?_ GE253.out) | exact HB.out)) hb); have n8_ := Aq.mk (hbox); have n9_ := Aq.mk ((by rw [hg]; exact (bQZ (by repeat (first | (with_reducible first | exact HB.out | apply bQA | apply bQN | apply bQ1 | refine bQS ?_ GE237.out | refine bQS ?_ GE248.out | refine bQS ?_ GE253.out) | exact HB.out))) : w.heap.size ≤ gb259)); have n10_ := Aq.mk ((by rw [hg]; exact (bQZ (by repeat (first | (with_reducible first | exact HB.out | apply bQA | apply bQN | apply bQ1 | refine bQS ?_ GE237.out | refine bQS ?_ GE248.out | refine bQS ?_ GE253.out) | exact HB.out))) : w.heap.size ≤ gb259)); have n11_ := Aq.mk ((by rw [hg]; exact Nat.ne_of_lt (blk_lt (g := gb237) (o := .cells #[.int .i64 a0_0, .slice A0_1 l0_1.length c0_1] 24 (0, 0)) (by (with_reducible repeat (first | refine kQN ?_ _ | refine kQD ?_ | refine kQA ?_ _)); exact BK237.out)) : gb237 ≠ gb259)); have n12_ := Aq.mk ((by rw [hg]; exact Nat.ne_of_gt (blk_lt (g := gb237) (o := .cells #[.int .i64 a0_0, .slice A0_1 l0_1.length c0_1] 24 (0, 0)) (by (with_reducible repeat (first | refine kQN ?_ _ | refine kQD ?_ | refine kQA ?_ _)); exact BK237.out)) : gb259 ≠ gb237)); have n13_ := Aq.mk ((by rw [hg]; exact Nat.ne_of_lt (blk_lt (g := gb248) (o := .cells #[.int .i64 t243, .slice Ao22 t244.length co22] 26 (0, 0)) (by (with_reducible repeat (first | refine kQN ?_ _ | refine kQD ?_ | refine kQA ?_ _)); exact BK248.out)) : gb248 ≠ gb259)); have n14_ := Aq.mk ((by rw [hg]; exact Nat.ne_of_gt (blk_lt (g := gb248) (o := .cells #[.int .i64 t243, .slice Ao22 t244.length co22] 26 (0, 0)) (by (with_reducible repeat (first | refine kQN ?_ _ | refine kQD ?_ | refine kQA ?_ _)); exact BK248.out)) : gb259 ≠ gb248)); have n15_ := Aq.mk ((by rw [hg]; exact Nat.ne_of_lt (blk_lt (g := gb253) (o := .cells #[.int .i64 t249, .slice Ao29 t250.length co29] 26 (0, 0)) (by (with_reducible repeat (first | refine kQN ?_ _ | refine kQD ?_ | refine kQA ?_ _)); exact BK253.out)) : gb253 ≠ gb259)); have n16_ := Aq.mk ((by rw [hg]; exact Nat.ne_of_gt (blk_lt (g := gb253) (o := .cells #[.int .i64 t249, .slice Ao29 t250.length co29] 26 (0, 0)) (by (with_reducible repeat (first | refine kQN ?_ _ | refine kQD ?_ | refine kQA ?_ _)); exact BK253.out)) : gb259 ≠ gb253)); clear HO242; clear HO246; clear HO252; clear HO257; clear BK237; clear BK248; clear BK253; clear HB; have HO242 := n0_; have HO246 := n1_; have HO252 := n2_; have HO257 := n3_; have BK237 := n4_; have BK248 := n5_; have BK253 := n6_; have HB := n7_; have BK259 := n8_; have GW259 := n9_; have GE259 := n10_; have NB237_259 := n11_; have NB259_237 := n12_; have NB248_259 := n13_; have NB259_248 := n14_; have NB253_259 := n15_; have NB259_253 := n16_; clear n0_ n1_ n2_ n3_ n4_ n5_ n6_ n7_ n8_ n9_ n10_ n11_ n12_ n13_ n14_ n15_ n16_; clear hb hbox hg; have hnb32 := NB259_237.out; have hnc32 := NB237_259.out; have hnb33 := NB259_248.out; have hnc33 := NB248_259.out; have hnb34 := NB259_253.out; have hnc34 := NB253_259.out; have hcz35_0 : w31.cell? ⟨gb259, 0, none⟩ = some (.int .i64 0) := (kQC BK259.out 0).trans rfl; have hcz35_1 : w31.cell? ⟨gb259, 1, none⟩ = some (.slice none 0 0) := (kQC BK259.out 1).trans rfl; have hfz35_0 := kQF BK259.out 0; have hfz35_1 := kQF BK259.out 1; obtain ⟨Ao36, co36, eo36⟩ := Kd.R_slice HO257.out; subst eo36))
  (try simp only [Act.put, qSa, qSb, qSc])
  go_cut [40] (fun v40 wc => ∃ (kq : Nat) (x40_10 : Bool), v40 = .bool x40_10 ∧ Aq (laws_FnExactKernelOf.j0 kq t247 t258 x40_10 a0_0 l0_1 t243 t244 t249 t250 t254 t255 = some r) ∧ Aq (kq ≤ k) ∧ Aq (Kd.R (Kd.int .i64) 2 wc w.heap.size (fun k_ => some k_ ≠ ((.slice Ao29 t250.length co29) : Value).ownBlock ∧ some k_ ≠ ((.slice Ao36 t255.length co36) : Value).ownBlock) (.slice Ao22 t244.length co22) t244) ∧ Aq (Kd.R (Kd.int .i64) 2 wc w.heap.size (fun k_ => some k_ ≠ ((.slice Ao22 t244.length co22) : Value).ownBlock ∧ some k_ ≠ ((.slice Ao36 t255.length co36) : Value).ownBlock) (.slice Ao29 t250.length co29) t250) ∧ Aq (Kd.R (Kd.int .i64) 2 wc w.heap.size (fun k_ => some k_ ≠ ((.slice Ao22 t244.length co22) : Value).ownBlock ∧ some k_ ≠ ((.slice Ao29 t250.length co29) : Value).ownBlock) (.slice Ao36 t255.length co36) t255) ∧ Aq (wc.heap[gb237]? = some (.cells #[.int .i64 a0_0, (.slice A0_1 l0_1.length c0_1)] 24 (0, 0))) ∧ Aq (wc.heap[gb248]? = some (.cells #[.int .i64 t243, (.slice Ao22 t244.length co22)] 26 (0, 0))) ∧ Aq (wc.heap[gb253]? = some (.cells #[.int .i64 t249, (.slice Ao29 t250.length co29)] 26 (0, 0))) ∧ Aq (wc.heap[gb259]? = some (.cells #[.int .i64 t254, (.slice Ao36 t255.length co36)] 26 (0, 0))) ∧ Aq (Below w.heap.size w wc))
  case first =>
   have H := HC11.out
   clear HC11
   replace H := Option.bind_eq_some_iff.mp H
   obtain ⟨t260, A370, H⟩ := H
   replace H : (if t260 = true then (laws_FnExactKernelOf.j0 k t247 t258 (t258 != t247) a0_0 l0_1 t243 t244 t249 t250 t254 t255) else (laws_FnExactKernelOf.j0 k t247 t258 true a0_0 l0_1 t243 t244 t249 t250 t254 t255)) = some r := H
   have A37 := Aq.mk A370
   clear A370
   by_cases c38 : t260 = true
   ·subst c38
    have H1 : (laws_FnExactKernelOf.j0 k t247 t258 (t258 != t247) a0_0 l0_1 t243 t244 t249 t250 t254 t255) = some r := by rw [if_pos rfl] at H; exact H
    clear H
    have H := H1
    clear H1
    have H' := Aq.mk H
    clear H
    have hnb39 := NB259_237.out
    have hnc39 := NB237_259.out
    have hnb40 := NB259_248.out
    have hnc40 := NB248_259.out
    have hnb41 := NB259_253.out
    have hnc41 := NB253_259.out
    have hcz42_0 : w31.cell? ⟨gb259, 0, none⟩ = some (.int .i64 0) := (kQC BK259.out 0).trans rfl
    have hcz42_1 : w31.cell? ⟨gb259, 1, none⟩ = some (.slice none 0 0) := (kQC BK259.out 1).trans rfl
    have hfz42_0 := kQF BK259.out 0
    have hfz42_1 := kQF BK259.out 1
    have hnb43 := NB248_237.out
    have hnc43 := NB237_248.out
    have hnb44 := NB248_253.out
    have hnc44 := NB253_248.out
    have hcz45_0 : w31.cell? ⟨gb248, 0, none⟩ = some (.int .i64 t243) := (kQC BK248.out 0).trans rfl
    have hcz45_1 : w31.cell? ⟨gb248, 1, none⟩ = some (.slice Ao22 t244.length co22) := (kQC BK248.out 1).trans rfl
    have hfz45_0 := kQF BK248.out 0
    have hfz45_1 := kQF BK248.out 1
    go_wp2_with (first | ((with_reducible refine gQc (f := 19) rfl ?_); refine goesL_ (some 34) rfl rfl Try.func19 (by kernel_rfl) rfl #[.agg #[.int .i64 t254, .slice Ao36 t255.length co36], .agg #[.int .i64 t243, .slice Ao22 t244.length co22]] rfl (by (try simp only [List.map_toArray, List.map_cons, List.map_nil]); first | done | rfl | (simp only [List.length_drop, List.length_take]; rfl)) ?_; (with_reducible refine (laws_eqMatrix.calls k t254 _ _ t255 t243 _ _ t244 true _ ?side1 ?side2 ?side3 ?side4 A37.out).mono ?_); (case side1 => refine (Kd.R_reads' (e := 2) (base := w.heap.size) (ok := fun k_ => (((True ∧ some k_ ≠ (.slice Ao17 t240.length co17 : Value).ownBlock) ∧ some k_ ≠ (.slice Ao22 t244.length co22 : Value).ownBlock) ∧ some k_ ≠ (.slice Ao29 t250.length co29 : Value).ownBlock)) (n := t255.length) (c := co36) ?_).2.2; exact (by (with_reducible repeat (first | apply Kd.RqA | apply Kd.RqN | apply Kd.RqD)); exact (Kd.R_mono (Kd.R_far (p := ⟨gb259, 1, none⟩) (Kd.R_far (p := ⟨gb259, 0, none⟩) (Kd.R_types HO257.out BK259.out (by decide)) (fun _ hk => hk.2) (.int .i64 t254)) (fun _ hk => hk.2) (.slice Ao36 t255.length co36)) (fun _ h_ => h_.1)))); (case side2 => exact (Kd.R_reads' HO257.out).2.1); (case side3 => refine (Kd.R_reads' (e := 2) (base := w.heap.size) (ok := fun k_ => (((True ∧ some k_ ≠ (.slice Ao17 t240.length co17 : Value).ownBlock) ∧ some k_ ≠ (.slice Ao29 t250.length co29 : Value).ownBlock) ∧ some k_ ≠ (.slice Ao36 t255.length co36 : Value).ownBlock)) (n := t244.length) (c := co22) ?_).2.2; exact (by (with_reducible repeat (first | apply Kd.RqA | apply Kd.RqN | apply Kd.RqD)); exact (Kd.R_mono (Kd.R_far (p := ⟨gb259, 1, none⟩) (Kd.R_far (p := ⟨gb259, 0, none⟩) (Kd.R_types HO246.out BK259.out (by decide)) (fun _ hk => hk.2) (.int .i64 t254)) (fun _ hk => hk.2) (.slice Ao36 t255.length co36)) (fun _ h_ => h_.1)))); (case side4 => exact (Kd.R_reads' HO246.out).2.1); rintro e w46 ⟨rfl, hb⟩; refine ⟨_, rfl, ?_⟩; have n0_ := Aq.mk (Kd.R_below (by (with_reducible repeat (first | apply Kd.RqA | apply Kd.RqN | apply Kd.RqD)); exact (Kd.R_mono (Kd.R_far (p := ⟨gb259, 1, none⟩) (Kd.R_far (p := ⟨gb259, 0, none⟩) (Kd.R_types HO242.out BK259.out (by decide)) (fun _ hk => hk.2) (.int .i64 t254)) (fun _ hk => hk.2) (.slice Ao36 t255.length co36)) (fun _ h_ => h_.1))) hb); have n1_ := Aq.mk (Kd.R_below (by (with_reducible repeat (first | apply Kd.RqA | apply Kd.RqN | apply Kd.RqD)); exact (Kd.R_mono (Kd.R_far (p := ⟨gb259, 1, none⟩) (Kd.R_far (p := ⟨gb259, 0, none⟩) (Kd.R_types HO246.out BK259.out (by decide)) (fun _ hk => hk.2) (.int .i64 t254)) (fun _ hk => hk.2) (.slice Ao36 t255.length co36)) (fun _ h_ => h_.1))) hb); have n2_ := Aq.mk (Kd.R_below (by (with_reducible repeat (first | apply Kd.RqA | apply Kd.RqN | apply Kd.RqD)); exact (Kd.R_mono (Kd.R_far (p := ⟨gb259, 1, none⟩) (Kd.R_far (p := ⟨gb259, 0, none⟩) (Kd.R_types HO252.out BK259.out (by decide)) (fun _ hk => hk.2) (.int .i64 t254)) (fun _ hk => hk.2) (.slice Ao36 t255.length co36)) (fun _ h_ => h_.1))) hb); have n3_ := Aq.mk (Kd.R_below (by (with_reducible repeat (first | apply Kd.RqA | apply Kd.RqN | apply Kd.RqD)); exact (Kd.R_mono (Kd.R_far (p := ⟨gb259, 1, none⟩) (Kd.R_far (p := ⟨gb259, 0, none⟩) (Kd.R_types HO257.out BK259.out (by decide)) (fun _ hk => hk.2) (.int .i64 t254)) (fun _ hk => hk.2) (.slice Ao36 t255.length co36)) (fun _ h_ => h_.1))) hb); have n4_ := Aq.mk (kQB (g := gb237) (o := .cells #[.int .i64 a0_0, .slice A0_1 l0_1.length c0_1] 24 (0, 0)) (by (with_reducible repeat (first | refine kQN ?_ _ | refine kQD ?_ | refine kQA ?_ _)); refine kQR ?_ NB237_259.out _; (with_reducible repeat (first | refine kQN ?_ _ | refine kQD ?_ | refine kQA ?_ _)); refine kQR ?_ NB237_259.out _; (with_reducible repeat (first | refine kQN ?_ _ | refine kQD ?_ | refine kQA ?_ _)); exact BK237.out) hb); have n5_ := Aq.mk (kQB (g := gb248) (o := .cells #[.int .i64 t243, .slice Ao22 t244.length co22] 26 (0, 0)) (by (with_reducible repeat (first | refine kQN ?_ _ | refine kQD ?_ | refine kQA ?_ _)); refine kQR ?_ NB248_259.out _; (with_reducible repeat (first | refine kQN ?_ _ | refine kQD ?_ | refine kQA ?_ _)); refine kQR ?_ NB248_259.out _; (with_reducible repeat (first | refine kQN ?_ _ | refine kQD ?_ | refine kQA ?_ _)); exact BK248.out) hb); have n6_ := Aq.mk (kQB (g := gb253) (o := .cells #[.int .i64 t249, .slice Ao29 t250.length co29] 26 (0, 0)) (by (with_reducible repeat (first | refine kQN ?_ _ | refine kQD ?_ | refine kQA ?_ _)); refine kQR ?_ NB253_259.out _; (with_reducible repeat (first | refine kQN ?_ _ | refine kQD ?_ | refine kQA ?_ _)); refine kQR ?_ NB253_259.out _; (with_reducible repeat (first | refine kQN ?_ _ | refine kQD ?_ | refine kQA ?_ _)); exact BK253.out) hb); have n7_ := Aq.mk (kQB (g := gb259) (o := .cells #[.int .i64 t254, .slice Ao36 t255.length co36] 26 (0, 0)) (by (with_reducible repeat (first | refine kQN ?_ _ | refine kQD ?_ | refine kQA ?_ _)); refine kQP (cs := #[.int .i64 t254, .slice none 0 0]) ?_ 1 _ rfl; (with_reducible repeat (first | refine kQN ?_ _ | refine kQD ?_ | refine kQA ?_ _)); refine kQP (cs := #[.int .i64 0, .slice none 0 0]) ?_ 0 _ rfl; (with_reducible repeat (first | refine kQN ?_ _ | refine kQD ?_ | refine kQA ?_ _)); exact BK259.out) hb); have n8_ := Aq.mk (bQT (by repeat (first | (with_reducible first | exact HB.out | apply bQA | apply bQN | apply bQ1 | refine bQS ?_ GE237.out | refine bQS ?_ GE248.out | refine bQS ?_ GE253.out | refine bQS ?_ GE259.out) | exact HB.out)) hb); clear HO242; clear HO246; clear HO252; clear HO257; clear BK237; clear BK248; clear BK253; clear BK259; clear HB; have HO242 := n0_; have HO246 := n1_; have HO252 := n2_; have HO257 := n3_; have BK237 := n4_; have BK248 := n5_; have BK253 := n6_; have BK259 := n7_; have HB := n8_; clear n0_ n1_ n2_ n3_ n4_ n5_ n6_ n7_ n8_; (try clear hb); (try clear hb2); (try clear hk); (try clear hi)))
    go_meet
    case rel => exact ⟨_, ((t258 != t247)), (by first | rfl | (simp; done) | (simp [*]; done)), H', ⟨by first | omega | exact Nat.le_refl _⟩, ⟨by (with_reducible repeat (first | apply Kd.RqA | apply Kd.RqN | apply Kd.RqD)); exact Kd.R_mono HO246.out (fun _ hk => ⟨hk.1.2, hk.2⟩)⟩, ⟨by (with_reducible repeat (first | apply Kd.RqA | apply Kd.RqN | apply Kd.RqD)); exact Kd.R_mono HO252.out (fun _ hk => ⟨hk.1.2, hk.2⟩)⟩, ⟨by (with_reducible repeat (first | apply Kd.RqA | apply Kd.RqN | apply Kd.RqD)); exact Kd.R_mono HO257.out (fun _ hk => ⟨hk.1.2, hk.2⟩)⟩, ⟨by (with_reducible repeat (first | refine kQN ?_ _ | refine kQD ?_ | refine kQA ?_ _)); exact BK237.out⟩, ⟨by (with_reducible repeat (first | refine kQN ?_ _ | refine kQD ?_ | refine kQA ?_ _)); exact BK248.out⟩, ⟨by (with_reducible repeat (first | refine kQN ?_ _ | refine kQD ?_ | refine kQA ?_ _)); exact BK253.out⟩, ⟨by (with_reducible repeat (first | refine kQN ?_ _ | refine kQD ?_ | refine kQA ?_ _)); exact BK259.out⟩, ⟨by repeat (first | (with_reducible first | exact HB.out | apply bQA | apply bQN | apply bQ1 | refine bQS ?_ GE237.out | refine bQS ?_ GE248.out | refine bQS ?_ GE253.out | refine bQS ?_ GE259.out) | exact HB.out)⟩⟩
   ·replace c38 := Bool.eq_false_iff.mpr c38
    subst c38
    have H1 : (laws_FnExactKernelOf.j0 k t247 t258 true a0_0 l0_1 t243 t244 t249 t250 t254 t255) = some r := by rw [if_neg (show ¬ (false = true) by decide)] at H; exact H
    clear H
    have H := H1
    clear H1
    have H' := Aq.mk H
    clear H
    have hnb47 := NB259_237.out
    have hnc47 := NB237_259.out
    have hnb48 := NB259_248.out
    have hnc48 := NB248_259.out
    have hnb49 := NB259_253.out
    have hnc49 := NB253_259.out
    have hcz50_0 : w31.cell? ⟨gb259, 0, none⟩ = some (.int .i64 0) := (kQC BK259.out 0).trans rfl
    have hcz50_1 : w31.cell? ⟨gb259, 1, none⟩ = some (.slice none 0 0) := (kQC BK259.out 1).trans rfl
    have hfz50_0 := kQF BK259.out 0
    have hfz50_1 := kQF BK259.out 1
    have hnb51 := NB248_237.out
    have hnc51 := NB237_248.out
    have hnb52 := NB248_253.out
    have hnc52 := NB253_248.out
    have hcz53_0 : w31.cell? ⟨gb248, 0, none⟩ = some (.int .i64 t243) := (kQC BK248.out 0).trans rfl
    have hcz53_1 : w31.cell? ⟨gb248, 1, none⟩ = some (.slice Ao22 t244.length co22) := (kQC BK248.out 1).trans rfl
    have hfz53_0 := kQF BK248.out 0
    have hfz53_1 := kQF BK248.out 1
    go_wp2_with (first | ((with_reducible refine gQc (f := 19) rfl ?_); refine goesL_ (some 34) rfl rfl Try.func19 (by kernel_rfl) rfl #[.agg #[.int .i64 t254, .slice Ao36 t255.length co36], .agg #[.int .i64 t243, .slice Ao22 t244.length co22]] rfl (by (try simp only [List.map_toArray, List.map_cons, List.map_nil]); first | done | rfl | (simp only [List.length_drop, List.length_take]; rfl)) ?_; (with_reducible refine (laws_eqMatrix.calls k t254 _ _ t255 t243 _ _ t244 false _ ?side1 ?side2 ?side3 ?side4 A37.out).mono ?_); (case side1 => refine (Kd.R_reads' (e := 2) (base := w.heap.size) (ok := fun k_ => (((True ∧ some k_ ≠ (.slice Ao17 t240.length co17 : Value).ownBlock) ∧ some k_ ≠ (.slice Ao22 t244.length co22 : Value).ownBlock) ∧ some k_ ≠ (.slice Ao29 t250.length co29 : Value).ownBlock)) (n := t255.length) (c := co36) ?_).2.2; exact (by (with_reducible repeat (first | apply Kd.RqA | apply Kd.RqN | apply Kd.RqD)); exact (Kd.R_mono (Kd.R_far (p := ⟨gb259, 1, none⟩) (Kd.R_far (p := ⟨gb259, 0, none⟩) (Kd.R_types HO257.out BK259.out (by decide)) (fun _ hk => hk.2) (.int .i64 t254)) (fun _ hk => hk.2) (.slice Ao36 t255.length co36)) (fun _ h_ => h_.1)))); (case side2 => exact (Kd.R_reads' HO257.out).2.1); (case side3 => refine (Kd.R_reads' (e := 2) (base := w.heap.size) (ok := fun k_ => (((True ∧ some k_ ≠ (.slice Ao17 t240.length co17 : Value).ownBlock) ∧ some k_ ≠ (.slice Ao29 t250.length co29 : Value).ownBlock) ∧ some k_ ≠ (.slice Ao36 t255.length co36 : Value).ownBlock)) (n := t244.length) (c := co22) ?_).2.2; exact (by (with_reducible repeat (first | apply Kd.RqA | apply Kd.RqN | apply Kd.RqD)); exact (Kd.R_mono (Kd.R_far (p := ⟨gb259, 1, none⟩) (Kd.R_far (p := ⟨gb259, 0, none⟩) (Kd.R_types HO246.out BK259.out (by decide)) (fun _ hk => hk.2) (.int .i64 t254)) (fun _ hk => hk.2) (.slice Ao36 t255.length co36)) (fun _ h_ => h_.1)))); (case side4 => exact (Kd.R_reads' HO246.out).2.1); rintro e w54 ⟨rfl, hb⟩; refine ⟨_, rfl, ?_⟩; have n0_ := Aq.mk (Kd.R_below (by (with_reducible repeat (first | apply Kd.RqA | apply Kd.RqN | apply Kd.RqD)); exact (Kd.R_mono (Kd.R_far (p := ⟨gb259, 1, none⟩) (Kd.R_far (p := ⟨gb259, 0, none⟩) (Kd.R_types HO242.out BK259.out (by decide)) (fun _ hk => hk.2) (.int .i64 t254)) (fun _ hk => hk.2) (.slice Ao36 t255.length co36)) (fun _ h_ => h_.1))) hb); have n1_ := Aq.mk (Kd.R_below (by (with_reducible repeat (first | apply Kd.RqA | apply Kd.RqN | apply Kd.RqD)); exact (Kd.R_mono (Kd.R_far (p := ⟨gb259, 1, none⟩) (Kd.R_far (p := ⟨gb259, 0, none⟩) (Kd.R_types HO246.out BK259.out (by decide)) (fun _ hk => hk.2) (.int .i64 t254)) (fun _ hk => hk.2) (.slice Ao36 t255.length co36)) (fun _ h_ => h_.1))) hb); have n2_ := Aq.mk (Kd.R_below (by (with_reducible repeat (first | apply Kd.RqA | apply Kd.RqN | apply Kd.RqD)); exact (Kd.R_mono (Kd.R_far (p := ⟨gb259, 1, none⟩) (Kd.R_far (p := ⟨gb259, 0, none⟩) (Kd.R_types HO252.out BK259.out (by decide)) (fun _ hk => hk.2) (.int .i64 t254)) (fun _ hk => hk.2) (.slice Ao36 t255.length co36)) (fun _ h_ => h_.1))) hb); have n3_ := Aq.mk (Kd.R_below (by (with_reducible repeat (first | apply Kd.RqA | apply Kd.RqN | apply Kd.RqD)); exact (Kd.R_mono (Kd.R_far (p := ⟨gb259, 1, none⟩) (Kd.R_far (p := ⟨gb259, 0, none⟩) (Kd.R_types HO257.out BK259.out (by decide)) (fun _ hk => hk.2) (.int .i64 t254)) (fun _ hk => hk.2) (.slice Ao36 t255.length co36)) (fun _ h_ => h_.1))) hb); have n4_ := Aq.mk (kQB (g := gb237) (o := .cells #[.int .i64 a0_0, .slice A0_1 l0_1.length c0_1] 24 (0, 0)) (by (with_reducible repeat (first | refine kQN ?_ _ | refine kQD ?_ | refine kQA ?_ _)); refine kQR ?_ NB237_259.out _; (with_reducible repeat (first | refine kQN ?_ _ | refine kQD ?_ | refine kQA ?_ _)); refine kQR ?_ NB237_259.out _; (with_reducible repeat (first | refine kQN ?_ _ | refine kQD ?_ | refine kQA ?_ _)); exact BK237.out) hb); have n5_ := Aq.mk (kQB (g := gb248) (o := .cells #[.int .i64 t243, .slice Ao22 t244.length co22] 26 (0, 0)) (by (with_reducible repeat (first | refine kQN ?_ _ | refine kQD ?_ | refine kQA ?_ _)); refine kQR ?_ NB248_259.out _; (with_reducible repeat (first | refine kQN ?_ _ | refine kQD ?_ | refine kQA ?_ _)); refine kQR ?_ NB248_259.out _; (with_reducible repeat (first | refine kQN ?_ _ | refine kQD ?_ | refine kQA ?_ _)); exact BK248.out) hb); have n6_ := Aq.mk (kQB (g := gb253) (o := .cells #[.int .i64 t249, .slice Ao29 t250.length co29] 26 (0, 0)) (by (with_reducible repeat (first | refine kQN ?_ _ | refine kQD ?_ | refine kQA ?_ _)); refine kQR ?_ NB253_259.out _; (with_reducible repeat (first | refine kQN ?_ _ | refine kQD ?_ | refine kQA ?_ _)); refine kQR ?_ NB253_259.out _; (with_reducible repeat (first | refine kQN ?_ _ | refine kQD ?_ | refine kQA ?_ _)); exact BK253.out) hb); have n7_ := Aq.mk (kQB (g := gb259) (o := .cells #[.int .i64 t254, .slice Ao36 t255.length co36] 26 (0, 0)) (by (with_reducible repeat (first | refine kQN ?_ _ | refine kQD ?_ | refine kQA ?_ _)); refine kQP (cs := #[.int .i64 t254, .slice none 0 0]) ?_ 1 _ rfl; (with_reducible repeat (first | refine kQN ?_ _ | refine kQD ?_ | refine kQA ?_ _)); refine kQP (cs := #[.int .i64 0, .slice none 0 0]) ?_ 0 _ rfl; (with_reducible repeat (first | refine kQN ?_ _ | refine kQD ?_ | refine kQA ?_ _)); exact BK259.out) hb); have n8_ := Aq.mk (bQT (by repeat (first | (with_reducible first | exact HB.out | apply bQA | apply bQN | apply bQ1 | refine bQS ?_ GE237.out | refine bQS ?_ GE248.out | refine bQS ?_ GE253.out | refine bQS ?_ GE259.out) | exact HB.out)) hb); clear HO242; clear HO246; clear HO252; clear HO257; clear BK237; clear BK248; clear BK253; clear BK259; clear HB; have HO242 := n0_; have HO246 := n1_; have HO252 := n2_; have HO257 := n3_; have BK237 := n4_; have BK248 := n5_; have BK253 := n6_; have BK259 := n7_; have HB := n8_; clear n0_ n1_ n2_ n3_ n4_ n5_ n6_ n7_ n8_; (try clear hb); (try clear hb2); (try clear hk); (try clear hi)))
    go_meet
    case rel => exact ⟨_, (true), (by first | rfl | (simp; done) | (simp [*]; done)), H', ⟨by first | omega | exact Nat.le_refl _⟩, ⟨by (with_reducible repeat (first | apply Kd.RqA | apply Kd.RqN | apply Kd.RqD)); exact Kd.R_mono HO246.out (fun _ hk => ⟨hk.1.2, hk.2⟩)⟩, ⟨by (with_reducible repeat (first | apply Kd.RqA | apply Kd.RqN | apply Kd.RqD)); exact Kd.R_mono HO252.out (fun _ hk => ⟨hk.1.2, hk.2⟩)⟩, ⟨by (with_reducible repeat (first | apply Kd.RqA | apply Kd.RqN | apply Kd.RqD)); exact Kd.R_mono HO257.out (fun _ hk => ⟨hk.1.2, hk.2⟩)⟩, ⟨by (with_reducible repeat (first | refine kQN ?_ _ | refine kQD ?_ | refine kQA ?_ _)); exact BK237.out⟩, ⟨by (with_reducible repeat (first | refine kQN ?_ _ | refine kQD ?_ | refine kQA ?_ _)); exact BK248.out⟩, ⟨by (with_reducible repeat (first | refine kQN ?_ _ | refine kQD ?_ | refine kQA ?_ _)); exact BK253.out⟩, ⟨by (with_reducible repeat (first | refine kQN ?_ _ | refine kQD ?_ | refine kQA ?_ _)); exact BK259.out⟩, ⟨by repeat (first | (with_reducible first | exact HB.out | apply bQA | apply bQN | apply bQ1 | refine bQS ?_ GE237.out | refine bQS ?_ GE248.out | refine bQS ?_ GE253.out | refine bQS ?_ GE259.out) | exact HB.out)⟩⟩
  case rest =>
   clear HC11
   try clear c1
   try clear c2
   try clear p2
   try clear c3
   try clear c3b0
   try clear c4
   try clear c5
   try clear c15
   try clear c16
   try clear c17
   try clear c18
   try clear c19
   try clear c20
   try clear c26
   try clear c27
   try clear c32
   try clear c33
   try clear c34
   try clear c38
   try clear c39
   try clear c40
   try clear c41
   try clear c43
   try clear c44
   try clear c47
   try clear c48
   try clear c49
   try clear c51
   try clear c52
   try clear hcz13_0
   try clear hcz13_1
   try clear hcz15_0
   try clear hcz15_1
   try clear hcz21_0
   try clear hcz21_1
   try clear hcz23_0
   try clear hcz23_1
   try clear hcz28_0
   try clear hcz28_1
   try clear hcz35_0
   try clear hcz35_1
   try clear hcz42_0
   try clear hcz42_1
   try clear hcz45_0
   try clear hcz45_1
   try clear hcz50_0
   try clear hcz50_1
   try clear hcz53_0
   try clear hcz53_1
   try clear hcz5_0
   try clear hcz5_1
   try clear hfz13_0
   try clear hfz13_1
   try clear hfz15_0
   try clear hfz15_1
   try clear hfz21_0
   try clear hfz21_1
   try clear hfz23_0
   try clear hfz23_1
   try clear hfz28_0
   try clear hfz28_1
   try clear hfz35_0
   try clear hfz35_1
   try clear hfz42_0
   try clear hfz42_1
   try clear hfz45_0
   try clear hfz45_1
   try clear hfz50_0
   try clear hfz50_1
   try clear hfz53_0
   try clear hfz53_1
   try clear hfz5_0
   try clear hfz5_1
   obtain ⟨kq, x40_10, rfl, HA, HJ10, HO_249001, HO_254001, HO_260001, BK237, BK248, BK253, BK259, HB⟩ := hcut
   cases kq with
   | zero => exact absurd HA.out (by simp [laws_FnExactKernelOf.j0])
   | succ kj10 =>
    have H := HA.out
    clear HA
    simp only [laws_FnExactKernelOf.j0] at H
    by_cases c55 : x40_10 = true
    ·subst c55
     have H1 : (some false) = some r := by rw [if_pos rfl] at H; exact H
     clear H
     have H := H1
     clear H1
     obtain rfl := Option.some.inj H
     go_wp2
     go_ret
     exact ⟨by first | rfl | (simp [errW_none, errW_some] <;> rfl) | (simp [*, errW_none, errW_some] <;> rfl), by repeat (first | (with_reducible first | exact HB.out | apply bQA | apply bQN | apply bQ1 | refine bQS ?_ GE237.out | refine bQS ?_ GE248.out | refine bQS ?_ GE253.out | refine bQS ?_ GE259.out) | exact HB.out)⟩
    ·replace c55 := Bool.eq_false_iff.mpr c55
     subst c55
     have H1 : ((laws_toMatrix.f kj10 a0_0 l0_1).bind fun bt261 => ((laws_eqMatrix.f kj10 t249 t250 bt261.1 bt261.2).bind fun t265 => (if t265 = true then ((laws_markMatrix.f kj10 t249 t250 1).bind fun bt266 => (if bt266.1 < 0 then (laws_FnExactKernelOf.j1 kj10 t247 true a0_0 l0_1 t243 t244 t254 t255) else ((laws_eqMatrix.f kj10 t254 t255 t243 t244).bind fun t268 => (if t268 = true then (laws_FnExactKernelOf.j1 kj10 t247 (t258 != t247) a0_0 l0_1 t243 t244 t254 t255) else (laws_FnExactKernelOf.j1 kj10 t247 true a0_0 l0_1 t243 t244 t254 t255))))) else (some false)))) = some r := by rw [if_neg (show ¬ (false = true) by decide)] at H; exact H
     clear H
     have H := H1
     clear H1
     replace H := Option.bind_eq_some_iff.mp H
     obtain ⟨⟨t261, t262⟩, A560, H⟩ := H
     replace H : ((laws_eqMatrix.f kj10 t249 t250 t261 t262).bind fun t265 => (if t265 = true then ((laws_markMatrix.f kj10 t249 t250 1).bind fun bt266 => (if bt266.1 < 0 then (laws_FnExactKernelOf.j1 kj10 t247 true a0_0 l0_1 t243 t244 t254 t255) else ((laws_eqMatrix.f kj10 t254 t255 t243 t244).bind fun t268 => (if t268 = true then (laws_FnExactKernelOf.j1 kj10 t247 (t258 != t247) a0_0 l0_1 t243 t244 t254 t255) else (laws_FnExactKernelOf.j1 kj10 t247 true a0_0 l0_1 t243 t244 t254 t255))))) else (some false))) = some r := H
     have A56 := Aq.mk A560
     clear A560
     replace H := Option.bind_eq_some_iff.mp H
     obtain ⟨t265, A570, H⟩ := H
     replace H : (if t265 = true then ((laws_markMatrix.f kj10 t249 t250 1).bind fun bt266 => (if bt266.1 < 0 then (laws_FnExactKernelOf.j1 kj10 t247 true a0_0 l0_1 t243 t244 t254 t255) else ((laws_eqMatrix.f kj10 t254 t255 t243 t244).bind fun t268 => (if t268 = true then (laws_FnExactKernelOf.j1 kj10 t247 (t258 != t247) a0_0 l0_1 t243 t244 t254 t255) else (laws_FnExactKernelOf.j1 kj10 t247 true a0_0 l0_1 t243 t244 t254 t255))))) else (some false)) = some r := H
     have A57 := Aq.mk A570
     clear A570
     by_cases c58 : t265 = true
     ·subst c58
      have H1 : ((laws_markMatrix.f kj10 t249 t250 1).bind fun bt266 => (if bt266.1 < 0 then (laws_FnExactKernelOf.j1 kj10 t247 true a0_0 l0_1 t243 t244 t254 t255) else ((laws_eqMatrix.f kj10 t254 t255 t243 t244).bind fun t268 => (if t268 = true then (laws_FnExactKernelOf.j1 kj10 t247 (t258 != t247) a0_0 l0_1 t243 t244 t254 t255) else (laws_FnExactKernelOf.j1 kj10 t247 true a0_0 l0_1 t243 t244 t254 t255))))) = some r := by rw [if_pos rfl] at H; exact H
      clear H
      have H := H1
      clear H1
      replace H := Option.bind_eq_some_iff.mp H
      obtain ⟨⟨t266, t267⟩, A590, H⟩ := H
      replace H : (if t266 < 0 then (laws_FnExactKernelOf.j1 kj10 t247 true a0_0 l0_1 t243 t244 t254 t255) else ((laws_eqMatrix.f kj10 t254 t255 t243 t244).bind fun t268 => (if t268 = true then (laws_FnExactKernelOf.j1 kj10 t247 (t258 != t247) a0_0 l0_1 t243 t244 t254 t255) else (laws_FnExactKernelOf.j1 kj10 t247 true a0_0 l0_1 t243 t244 t254 t255)))) = some r := H
      have A59 := Aq.mk A590
      clear A590
      have HC60 := Aq.mk H
      clear H
      try go_wp2
      have n0_ := Aq.mk (Kd.RqD HO_249001.out)
      have n1_ := Aq.mk (Kd.RqD HO_254001.out)
      have n2_ := Aq.mk (Kd.RqD HO_260001.out)
      have n3_ := Aq.mk (kQD BK237.out)
      have n4_ := Aq.mk (kQD BK248.out)
      have n5_ := Aq.mk (kQD BK253.out)
      have n6_ := Aq.mk (kQD BK259.out)
      have n7_ := Aq.mk (bQ1 HB.out)
      clear HO_249001
      clear HO_254001
      clear HO_260001
      clear BK237
      clear BK248
      clear BK253
      clear BK259
      clear HB
      have HO_249001 := n0_
      have HO_254001 := n1_
      have HO_260001 := n2_
      have BK237 := n3_
      have BK248 := n4_
      have BK253 := n5_
      have BK259 := n6_
      have HB := n7_
      clear n0_ n1_ n2_ n3_ n4_ n5_ n6_ n7_
      refine start_ (n := 5) (S := fun w' => w'.cell? ⟨gb253, 0, none⟩ = some (.int .i64 t249) ∧ w'.cell? ⟨gb253, 1, none⟩ = some (.slice Ao29 t250.length co29) ∧ w'.cell? ⟨gb237, 0, none⟩ = some (.int .i64 a0_0) ∧ w'.cell? ⟨gb237, 1, none⟩ = some (.slice A0_1 l0_1.length c0_1)) (ds := []) #[false, false, false, false, false] (by kernel_rfl) rfl rfl ⟨(kQC BK253.out 0).trans rfl, (kQC BK253.out 1).trans rfl, (kQC BK237.out 0).trans rfl, (kQC BK237.out 1).trans rfl⟩ (fun hHeld => ?_)
      generalize wc.drew = w61 at HO_249001 HO_254001 HO_260001 BK237 BK248 BK253 BK259 HB hHeld ⊢
      refine take_ (i := 0) (N := some 41) (v := ?_) (a' := ?_) #[true, false, false, false, false] rfl rfl (by kernel_rfl) (fun _ _ _ h => h) (Or.inl ⟨by rfl, ?_⟩) hHeld ?_ ?_
      rotate_left
      ·rintro w' ⟨s0, s1, s2, s3⟩
       go_simp
       with_reducible rfl
      rotate_left
      ·simp only [Act.put, qSa, qSb, qSc, i64_w, i32_w]
       rfl
      refine take_ (i := 1) (N := some 42) (v := ?_) (a' := ?_) #[true, true, false, false, false] rfl rfl (by kernel_rfl) (fun _ _ _ h => h) (Or.inl ⟨by rfl, ?_⟩) hHeld ?_ ?_
      rotate_left
      ·rintro w' ⟨s0, s1, s2, s3⟩
       go_simp
       with_reducible rfl
      rotate_left
      ·simp only [Act.put, qSa, qSb, qSc, i64_w, i32_w]
       rfl
      refine one_ (i := 2) (N := some 43) #[true, true, true, false, false] rfl rfl (by kernel_rfl) (by decide) (fun K hK => ?_)
      refine goes_ Try.func17 (by kernel_rfl) rfl #[.agg #[.int .i64 a0_0, .slice A0_1 l0_1.length c0_1]] (by rfl) rfl rfl (by (try simp only [List.map_toArray, List.map_cons, List.map_nil]); first | done | rfl | (simp only [List.length_drop, List.length_take]; rfl)) ?_
      with_reducible refine (laws_toMatrix.calls kj10 a0_0 _ _ l0_1 t261 t262 _ ?side1 ?side2 A56.out).mono ?_
      (case side1 => repeat (first | exact (Kd.C_below HR0_1.out HB.out) | (with_reducible refine Kd.CqA ?_ _) | (with_reducible refine Kd.CqN ?_ _) | (with_reducible refine Kd.CqD ?_)))
      (case side2 => exact HC0_1.out)
      rintro e w62 ⟨v263, rfl, ho0, hb⟩
      refine ⟨_, rfl, ?_⟩
      have n0_ := Aq.mk (Kd.R_elder' (by (with_reducible repeat (first | apply Kd.RqA | apply Kd.RqN | apply Kd.RqD)); exact HO_249001.out) (Kd.R_base ho0) hb)
      have n1_ := Aq.mk (Kd.R_elder' (by (with_reducible repeat (first | apply Kd.RqA | apply Kd.RqN | apply Kd.RqD)); exact HO_254001.out) (Kd.R_base ho0) hb)
      have n2_ := Aq.mk (Kd.R_elder' (by (with_reducible repeat (first | apply Kd.RqA | apply Kd.RqN | apply Kd.RqD)); exact HO_260001.out) (Kd.R_base ho0) hb)
      have n3_ := Aq.mk (Kd.R_lower (Kd.R_new' (Kd.R_new' (Kd.R_new' ho0 (Kd.R_lt (by (with_reducible repeat (first | apply Kd.RqA | apply Kd.RqN | apply Kd.RqD)); exact HO_249001.out))) (Kd.R_lt (by (with_reducible repeat (first | apply Kd.RqA | apply Kd.RqN | apply Kd.RqD)); exact HO_254001.out))) (Kd.R_lt (by (with_reducible repeat (first | apply Kd.RqA | apply Kd.RqN | apply Kd.RqD)); exact HO_260001.out))) (bQZ (by repeat (first | (with_reducible first | exact HB.out | apply bQA | apply bQN | apply bQ1 | refine bQS ?_ GE237.out | refine bQS ?_ GE248.out | refine bQS ?_ GE253.out | refine bQS ?_ GE259.out) | exact HB.out))))
      have n4_ := Aq.mk (kQB (g := gb237) (o := .cells #[.int .i64 a0_0, .slice A0_1 l0_1.length c0_1] 24 (0, 0)) (by (with_reducible repeat (first | refine kQN ?_ _ | refine kQD ?_ | refine kQA ?_ _)); exact BK237.out) hb)
      have n5_ := Aq.mk (kQB (g := gb248) (o := .cells #[.int .i64 t243, .slice Ao22 t244.length co22] 26 (0, 0)) (by (with_reducible repeat (first | refine kQN ?_ _ | refine kQD ?_ | refine kQA ?_ _)); exact BK248.out) hb)
      have n6_ := Aq.mk (kQB (g := gb253) (o := .cells #[.int .i64 t249, .slice Ao29 t250.length co29] 26 (0, 0)) (by (with_reducible repeat (first | refine kQN ?_ _ | refine kQD ?_ | refine kQA ?_ _)); exact BK253.out) hb)
      have n7_ := Aq.mk (kQB (g := gb259) (o := .cells #[.int .i64 t254, .slice Ao36 t255.length co36] 26 (0, 0)) (by (with_reducible repeat (first | refine kQN ?_ _ | refine kQD ?_ | refine kQA ?_ _)); exact BK259.out) hb)
      have n8_ := Aq.mk (bQT (by repeat (first | (with_reducible first | exact HB.out | apply bQA | apply bQN | apply bQ1 | refine bQS ?_ GE237.out | refine bQS ?_ GE248.out | refine bQS ?_ GE253.out | refine bQS ?_ GE259.out) | exact HB.out)) hb)
      clear HO_249001
      clear HO_254001
      clear HO_260001
      clear BK237
      clear BK248
      clear BK253
      clear BK259
      clear HB
      have HO_249001 := n0_
      have HO_254001 := n1_
      have HO_260001 := n2_
      have HO264 := n3_
      have BK237 := n4_
      have BK248 := n5_
      have BK253 := n6_
      have BK259 := n7_
      have HB := n8_
      clear n0_ n1_ n2_ n3_ n4_ n5_ n6_ n7_ n8_
      (try clear hb)
      (try clear hb2)
      (try clear hk)
      (try clear hi)
      (try clear ho0)
      obtain ⟨Ao63, co63, eo63⟩ := Kd.R_slice HO264.out
      (first | subst eo63 | (injection eo63 with f1_ f2_ f3_; have f4_ := f1_.symm; have f5_ := f3_.symm; clear f1_ f2_ f3_; subst f4_; subst f5_))
      refine hK.out _ _ ⟨(kQC BK253.out 0).trans rfl, (kQC BK253.out 1).trans rfl, (kQC BK237.out 0).trans rfl, (kQC BK237.out 1).trans rfl⟩ (fun hHeld => ?_)
      clear hK K
      refine norm_ (a' := ?_) ?_ ?_
      rotate_left
      ·show Act.put _ (some 43) _ = _
       simp only [Act.put, qSa, qSb, qSc, i64_w, i32_w]
       rfl
      refine one_ (i := 3) (N := some 44) #[true, true, true, true, false] rfl rfl (by kernel_rfl) (by decide) (fun K hK => ?_)
      refine goes_ Try.func19 (by kernel_rfl) rfl #[.agg #[.int .i64 t249, .slice Ao29 t250.length co29], .agg #[.int .i64 t261, .slice Ao63 t262.length co63]] (by rfl) rfl rfl (by (try simp only [List.map_toArray, List.map_cons, List.map_nil]); first | done | rfl | (simp only [List.length_drop, List.length_take]; rfl)) ?_
      with_reducible refine (laws_eqMatrix.calls kj10 t249 _ _ t250 t261 _ _ t262 true _ ?side1 ?side2 ?side3 ?side4 A57.out).mono ?_
      (case side1 => repeat (first | exact (Kd.R_reads' HO_254001.out).2.2 | (with_reducible refine Kd.CqA ?_ _) | (with_reducible refine Kd.CqN ?_ _) | (with_reducible refine Kd.CqD ?_)))
      (case side2 => exact (Kd.R_reads' HO_254001.out).2.1)
      (case side3 => repeat (first | exact (Kd.R_reads' HO264.out).2.2 | (with_reducible refine Kd.CqA ?_ _) | (with_reducible refine Kd.CqN ?_ _) | (with_reducible refine Kd.CqD ?_)))
      (case side4 => exact (Kd.R_reads' HO264.out).2.1)
      rintro e w64 ⟨rfl, hb⟩
      refine ⟨_, rfl, ?_⟩
      have n0_ := Aq.mk (Kd.R_below (by (with_reducible repeat (first | apply Kd.RqA | apply Kd.RqN | apply Kd.RqD)); exact HO_249001.out) hb)
      have n1_ := Aq.mk (Kd.R_below (by (with_reducible repeat (first | apply Kd.RqA | apply Kd.RqN | apply Kd.RqD)); exact HO_254001.out) hb)
      have n2_ := Aq.mk (Kd.R_below (by (with_reducible repeat (first | apply Kd.RqA | apply Kd.RqN | apply Kd.RqD)); exact HO_260001.out) hb)
      have n3_ := Aq.mk (Kd.R_below (by (with_reducible repeat (first | apply Kd.RqA | apply Kd.RqN | apply Kd.RqD)); exact HO264.out) hb)
      have n4_ := Aq.mk (kQB (g := gb237) (o := .cells #[.int .i64 a0_0, .slice A0_1 l0_1.length c0_1] 24 (0, 0)) (by (with_reducible repeat (first | refine kQN ?_ _ | refine kQD ?_ | refine kQA ?_ _)); exact BK237.out) hb)
      have n5_ := Aq.mk (kQB (g := gb248) (o := .cells #[.int .i64 t243, .slice Ao22 t244.length co22] 26 (0, 0)) (by (with_reducible repeat (first | refine kQN ?_ _ | refine kQD ?_ | refine kQA ?_ _)); exact BK248.out) hb)
      have n6_ := Aq.mk (kQB (g := gb253) (o := .cells #[.int .i64 t249, .slice Ao29 t250.length co29] 26 (0, 0)) (by (with_reducible repeat (first | refine kQN ?_ _ | refine kQD ?_ | refine kQA ?_ _)); exact BK253.out) hb)
      have n7_ := Aq.mk (kQB (g := gb259) (o := .cells #[.int .i64 t254, .slice Ao36 t255.length co36] 26 (0, 0)) (by (with_reducible repeat (first | refine kQN ?_ _ | refine kQD ?_ | refine kQA ?_ _)); exact BK259.out) hb)
      have n8_ := Aq.mk (bQT (by repeat (first | (with_reducible first | exact HB.out | apply bQA | apply bQN | apply bQ1 | refine bQS ?_ GE237.out | refine bQS ?_ GE248.out | refine bQS ?_ GE253.out | refine bQS ?_ GE259.out) | exact HB.out)) hb)
      clear HO_249001
      clear HO_254001
      clear HO_260001
      clear HO264
      clear BK237
      clear BK248
      clear BK253
      clear BK259
      clear HB
      have HO_249001 := n0_
      have HO_254001 := n1_
      have HO_260001 := n2_
      have HO264 := n3_
      have BK237 := n4_
      have BK248 := n5_
      have BK253 := n6_
      have BK259 := n7_
      have HB := n8_
      clear n0_ n1_ n2_ n3_ n4_ n5_ n6_ n7_ n8_
      (try clear hb)
      (try clear hb2)
      (try clear hk)
      (try clear hi)
      refine hK.out _ _ ⟨(kQC BK253.out 0).trans rfl, (kQC BK253.out 1).trans rfl, (kQC BK237.out 0).trans rfl, (kQC BK237.out 1).trans rfl⟩ (fun hHeld => ?_)
      clear hK K
      refine norm_ (a' := ?_) ?_ ?_
      rotate_left
      ·show Act.put _ (some 44) _ = _
       simp only [Act.put, qSa, qSb, qSc, i64_w, i32_w]
       rfl
      refine pure_ (i := 4) (N := some 45) (v := ?_) (a' := ?_) #[true, true, true, true, true] rfl rfl (by kernel_rfl) (fun _ _ _ h => h) (Or.inl ⟨by rfl, ?_⟩) ?_ ?_
      rotate_left
      ·intro w'
       go_simp
       with_reducible rfl
      rotate_left
      ·simp only [Act.put, qSa, qSb, qSc, i64_w, i32_w]
       rfl
      refine done_ (by kernel_rfl) ?_
      have hnb65 := NB253_237.out
      have hnc65 := NB237_253.out
      have hnb66 := NB253_248.out
      have hnc66 := NB248_253.out
      have hnb67 := NB253_259.out
      have hnc67 := NB259_253.out
      have hcz68_0 : w64.cell? ⟨gb253, 0, none⟩ = some (.int .i64 t249) := (kQC BK253.out 0).trans rfl
      have hcz68_1 : w64.cell? ⟨gb253, 1, none⟩ = some (.slice Ao29 t250.length co29) := (kQC BK253.out 1).trans rfl
      have hfz68_0 := kQF BK253.out 0
      have hfz68_1 := kQF BK253.out 1
      go_upto_region 14 with (first | ((with_reducible refine gQc (f := 20) rfl ?_); refine goesL_ (some 48) rfl rfl Try.func20 (by kernel_rfl) rfl #[.agg #[.int .i64 t249, .slice Ao29 t250.length co29], .int .i64 1] rfl (by (try simp only [List.map_toArray, List.map_cons, List.map_nil]); first | done | rfl | (simp only [List.length_drop, List.length_take]; rfl)) ?_; (with_reducible refine (laws_markMatrix.calls kj10 t249 (fun k_ => some k_ = (.slice Ao29 t250.length co29 : Value).ownBlock) (.slice Ao29 t250.length co29) t250 1 t266 t267 w _ ?side1 ?side2 A59.out).mono ?_); (case side1 => repeat (first | (with_reducible first | exact HB.out | apply bQA | apply bQN | apply bQ1 | refine bQS ?_ GE237.out | refine bQS ?_ GE248.out | refine bQS ?_ GE253.out | refine bQS ?_ GE259.out) | exact HB.out)); (case side2 => exact Kd.R_tight rfl HO_254001.out); rintro e w69 ⟨rfl, hy0, hb, hkp⟩; refine ⟨_, rfl, ?_⟩; have n0_ := Aq.mk (Kd.R_mono (ok' := fun k_ => some k_ ≠ (.slice Ao29 t250.length co29 : Value).ownBlock ∧ some k_ ≠ (.slice Ao36 t255.length co36 : Value).ownBlock ∧ some k_ ≠ (.slice Ao63 t262.length co63 : Value).ownBlock) (Kd.R_keptB (HO_249001.out) hkp (fun k_ hk_ hs_ => (hk_.1.1) hs_)) (fun k_ hk_ => ⟨hk_.1.1.1, hk_.1.1.2, hk_.1.2⟩)); have n1_ := Aq.mk (Kd.R_reok rfl hy0 (fun k_ e_ => HO_254001.out.1 k_ e_)); have n2_ := Aq.mk (Kd.R_mono (ok' := fun k_ => some k_ ≠ (.slice Ao22 t244.length co22 : Value).ownBlock ∧ some k_ ≠ (.slice Ao29 t250.length co29 : Value).ownBlock ∧ some k_ ≠ (.slice Ao63 t262.length co63 : Value).ownBlock) (Kd.R_keptB (HO_260001.out) hkp (fun k_ hk_ hs_ => (hk_.1.2) hs_)) (fun k_ hk_ => ⟨hk_.1.1.1, hk_.1.1.2, hk_.1.2⟩)); have n3_ := Aq.mk (blk_kept (by (with_reducible repeat (first | refine kQN ?_ _ | refine kQD ?_ | refine kQA ?_ _)); exact BK237.out) hkp (fun hs_ => (fun e_ => (Kd.R_ne HO_254001.out BK237.out (by decide)) e_) hs_)); have n4_ := Aq.mk (blk_kept (by (with_reducible repeat (first | refine kQN ?_ _ | refine kQD ?_ | refine kQA ?_ _)); exact BK248.out) hkp (fun hs_ => (fun e_ => (Kd.R_ne HO_254001.out BK248.out (by decide)) e_) hs_)); have n5_ := Aq.mk (blk_kept (by (with_reducible repeat (first | refine kQN ?_ _ | refine kQD ?_ | refine kQA ?_ _)); exact BK253.out) hkp (fun hs_ => (fun e_ => (Kd.R_ne HO_254001.out BK253.out (by decide)) e_) hs_)); have n6_ := Aq.mk (blk_kept (by (with_reducible repeat (first | refine kQN ?_ _ | refine kQD ?_ | refine kQA ?_ _)); exact BK259.out) hkp (fun hs_ => (fun e_ => (Kd.R_ne HO_254001.out BK259.out (by decide)) e_) hs_)); have n7_ := Aq.mk (Kd.R_mono (ok' := fun k_ => some k_ ≠ (.slice Ao22 t244.length co22 : Value).ownBlock ∧ some k_ ≠ (.slice Ao29 t250.length co29 : Value).ownBlock ∧ some k_ ≠ (.slice Ao36 t255.length co36 : Value).ownBlock) (Kd.R_keptB (HO264.out) hkp (fun k_ hk_ hs_ => (hk_.1.2) hs_)) (fun k_ hk_ => ⟨hk_.1.1.1.2, hk_.1.1.2, hk_.1.2⟩)); have n8_ := Aq.mk (hb); clear HO_249001; clear HO_254001; clear HO_260001; clear BK237; clear BK248; clear BK253; clear BK259; clear HO264; clear HB; have HO_249001 := n0_; have HO_254001 := n1_; have HO_260001 := n2_; have BK237 := n3_; have BK248 := n4_; have BK253 := n5_; have BK259 := n6_; have HO264 := n7_; have HB := n8_; clear n0_ n1_ n2_ n3_ n4_ n5_ n6_ n7_ n8_; (try clear hb); (try clear hkp); (try clear hy0)))
      (try simp only [Act.put, qSa, qSb, qSc])
      go_cut [61] (fun v61 wc => ∃ (kq : Nat) (x61_59 : Bool), v61 = .bool x61_59 ∧ Aq (laws_FnExactKernelOf.j1 kq t247 x61_59 a0_0 l0_1 t243 t244 t254 t255 = some r) ∧ Aq (kq ≤ kj10) ∧ Aq (Kd.R (Kd.int .i64) 2 wc w.heap.size (fun k_ => some k_ ≠ ((.slice Ao29 t250.length co29) : Value).ownBlock ∧ some k_ ≠ ((.slice Ao36 t255.length co36) : Value).ownBlock) (.slice Ao22 t244.length co22) t244) ∧ Aq (Kd.R (Kd.int .i64) 2 wc w.heap.size (fun k_ => some k_ ≠ ((.slice Ao22 t244.length co22) : Value).ownBlock ∧ some k_ ≠ ((.slice Ao36 t255.length co36) : Value).ownBlock) (.slice Ao29 t250.length co29) t267) ∧ Aq (Kd.R (Kd.int .i64) 2 wc w.heap.size (fun k_ => some k_ ≠ ((.slice Ao22 t244.length co22) : Value).ownBlock ∧ some k_ ≠ ((.slice Ao29 t250.length co29) : Value).ownBlock) (.slice Ao36 t255.length co36) t255) ∧ Aq (wc.heap[gb237]? = some (.cells #[.int .i64 a0_0, (.slice A0_1 l0_1.length c0_1)] 24 (0, 0))) ∧ Aq (wc.heap[gb248]? = some (.cells #[.int .i64 t243, (.slice Ao22 t244.length co22)] 26 (0, 0))) ∧ Aq (wc.heap[gb253]? = some (.cells #[.int .i64 t249, (.slice Ao29 t250.length co29)] 26 (0, 0))) ∧ Aq (wc.heap[gb259]? = some (.cells #[.int .i64 t254, (.slice Ao36 t255.length co36)] 26 (0, 0))) ∧ Aq (Below w.heap.size w wc))
      case first =>
       have H := HC60.out
       clear HC60
       by_cases c70 : t266 < 0
       ·rw [if_pos c70] at H
        have c70b0 : decide (t266 < 0) = true := decide_eq_true c70
        clear c70
        (first | rw [c70b0] | (simp only [i64_w, i32_w]; rw [c70b0]) | skip)
        have H' := Aq.mk H
        clear H
        go_wp2
        go_meet
        case rel => exact ⟨_, (true), (by first | rfl | (simp; done) | (simp [*]; done)), H', ⟨by have := HJ10.out; first | omega | exact Nat.le_refl _⟩, ⟨by (with_reducible repeat (first | apply Kd.RqA | apply Kd.RqN | apply Kd.RqD)); exact Kd.R_mono HO_249001.out (fun _ hk => ⟨hk.1, hk.2.1⟩)⟩, ⟨by (with_reducible repeat (first | apply Kd.RqA | apply Kd.RqN | apply Kd.RqD)); exact Kd.R_mono HO_254001.out (fun _ hk => ⟨hk.1.1, hk.1.2⟩)⟩, ⟨by (with_reducible repeat (first | apply Kd.RqA | apply Kd.RqN | apply Kd.RqD)); exact Kd.R_mono HO_260001.out (fun _ hk => ⟨hk.1, hk.2.1⟩)⟩, ⟨by (with_reducible repeat (first | refine kQN ?_ _ | refine kQD ?_ | refine kQA ?_ _)); exact BK237.out⟩, ⟨by (with_reducible repeat (first | refine kQN ?_ _ | refine kQD ?_ | refine kQA ?_ _)); exact BK248.out⟩, ⟨by (with_reducible repeat (first | refine kQN ?_ _ | refine kQD ?_ | refine kQA ?_ _)); exact BK253.out⟩, ⟨by (with_reducible repeat (first | refine kQN ?_ _ | refine kQD ?_ | refine kQA ?_ _)); exact BK259.out⟩, ⟨by repeat (first | (with_reducible first | exact HB.out | apply bQA | apply bQN | apply bQ1 | refine bQS ?_ GE237.out | refine bQS ?_ GE248.out | refine bQS ?_ GE253.out | refine bQS ?_ GE259.out) | exact HB.out)⟩⟩
       ·rw [if_neg c70] at H
        have c70b0 : decide (t266 < 0) = false := decide_eq_false c70
        clear c70
        (first | rw [c70b0] | (simp only [i64_w, i32_w]; rw [c70b0]) | skip)
        replace H := Option.bind_eq_some_iff.mp H
        obtain ⟨t268, A710, H⟩ := H
        replace H : (if t268 = true then (laws_FnExactKernelOf.j1 kj10 t247 (t258 != t247) a0_0 l0_1 t243 t244 t254 t255) else (laws_FnExactKernelOf.j1 kj10 t247 true a0_0 l0_1 t243 t244 t254 t255)) = some r := H
        have A71 := Aq.mk A710
        clear A710
        by_cases c72 : t268 = true
        ·subst c72
         have H1 : (laws_FnExactKernelOf.j1 kj10 t247 (t258 != t247) a0_0 l0_1 t243 t244 t254 t255) = some r := by rw [if_pos rfl] at H; exact H
         clear H
         have H := H1
         clear H1
         have H' := Aq.mk H
         clear H
         have hnb73 := NB259_237.out
         have hnc73 := NB237_259.out
         have hnb74 := NB259_248.out
         have hnc74 := NB248_259.out
         have hnb75 := NB259_253.out
         have hnc75 := NB253_259.out
         have hcz76_0 : w69.cell? ⟨gb259, 0, none⟩ = some (.int .i64 t254) := (kQC BK259.out 0).trans rfl
         have hcz76_1 : w69.cell? ⟨gb259, 1, none⟩ = some (.slice Ao36 t255.length co36) := (kQC BK259.out 1).trans rfl
         have hfz76_0 := kQF BK259.out 0
         have hfz76_1 := kQF BK259.out 1
         have hnb77 := NB248_237.out
         have hnc77 := NB237_248.out
         have hnb78 := NB248_253.out
         have hnc78 := NB253_248.out
         have hcz79_0 : w69.cell? ⟨gb248, 0, none⟩ = some (.int .i64 t243) := (kQC BK248.out 0).trans rfl
         have hcz79_1 : w69.cell? ⟨gb248, 1, none⟩ = some (.slice Ao22 t244.length co22) := (kQC BK248.out 1).trans rfl
         have hfz79_0 := kQF BK248.out 0
         have hfz79_1 := kQF BK248.out 1
         go_wp2_with (first | (go_at_call 19; (with_reducible refine (laws_eqMatrix.calls kj10 t254 _ _ t255 t243 _ _ t244 true _ ?side1 ?side2 ?side3 ?side4 A71.out).mono ?_); (case side1 => repeat (first | exact (Kd.R_reads' HO_260001.out).2.2 | (with_reducible refine Kd.CqA ?_ _) | (with_reducible refine Kd.CqN ?_ _) | (with_reducible refine Kd.CqD ?_))); (case side2 => exact (Kd.R_reads' HO_260001.out).2.1); (case side3 => repeat (first | exact (Kd.R_reads' HO_249001.out).2.2 | (with_reducible refine Kd.CqA ?_ _) | (with_reducible refine Kd.CqN ?_ _) | (with_reducible refine Kd.CqD ?_))); (case side4 => exact (Kd.R_reads' HO_249001.out).2.1); rintro e w80 ⟨rfl, hb⟩; have n0_ := Aq.mk (Kd.R_below (by (with_reducible repeat (first | apply Kd.RqA | apply Kd.RqN | apply Kd.RqD)); exact HO_249001.out) hb); have n1_ := Aq.mk (Kd.R_below (by (with_reducible repeat (first | apply Kd.RqA | apply Kd.RqN | apply Kd.RqD)); exact HO_254001.out) hb); have n2_ := Aq.mk (Kd.R_below (by (with_reducible repeat (first | apply Kd.RqA | apply Kd.RqN | apply Kd.RqD)); exact HO_260001.out) hb); have n3_ := Aq.mk (Kd.R_below (by (with_reducible repeat (first | apply Kd.RqA | apply Kd.RqN | apply Kd.RqD)); exact HO264.out) hb); have n4_ := Aq.mk (kQB (g := gb237) (o := .cells #[.int .i64 a0_0, .slice A0_1 l0_1.length c0_1] 24 (0, 0)) (by (with_reducible repeat (first | refine kQN ?_ _ | refine kQD ?_ | refine kQA ?_ _)); exact BK237.out) hb); have n5_ := Aq.mk (kQB (g := gb248) (o := .cells #[.int .i64 t243, .slice Ao22 t244.length co22] 26 (0, 0)) (by (with_reducible repeat (first | refine kQN ?_ _ | refine kQD ?_ | refine kQA ?_ _)); exact BK248.out) hb); have n6_ := Aq.mk (kQB (g := gb253) (o := .cells #[.int .i64 t249, .slice Ao29 t250.length co29] 26 (0, 0)) (by (with_reducible repeat (first | refine kQN ?_ _ | refine kQD ?_ | refine kQA ?_ _)); exact BK253.out) hb); have n7_ := Aq.mk (kQB (g := gb259) (o := .cells #[.int .i64 t254, .slice Ao36 t255.length co36] 26 (0, 0)) (by (with_reducible repeat (first | refine kQN ?_ _ | refine kQD ?_ | refine kQA ?_ _)); exact BK259.out) hb); have n8_ := Aq.mk (bQT (by repeat (first | (with_reducible first | exact HB.out | apply bQA | apply bQN | apply bQ1 | refine bQS ?_ GE237.out | refine bQS ?_ GE248.out | refine bQS ?_ GE253.out | refine bQS ?_ GE259.out) | exact HB.out)) hb); clear HO_249001; clear HO_254001; clear HO_260001; clear HO264; clear BK237; clear BK248; clear BK253; clear BK259; clear HB; have HO_249001 := n0_; have HO_254001 := n1_; have HO_260001 := n2_; have HO264 := n3_; have BK237 := n4_; have BK248 := n5_; have BK253 := n6_; have BK259 := n7_; have HB := n8_; clear n0_ n1_ n2_ n3_ n4_ n5_ n6_ n7_ n8_; (try clear hb); (try clear hb2); (try clear hk); (try clear hi)))
         go_meet
         case rel => exact ⟨_, ((t258 != t247)), (by first | rfl | (simp; done) | (simp [*]; done)), H', ⟨by have := HJ10.out; first | omega | exact Nat.le_refl _⟩, ⟨by (with_reducible repeat (first | apply Kd.RqA | apply Kd.RqN | apply Kd.RqD)); exact Kd.R_mono HO_249001.out (fun _ hk => ⟨hk.1, hk.2.1⟩)⟩, ⟨by (with_reducible repeat (first | apply Kd.RqA | apply Kd.RqN | apply Kd.RqD)); exact Kd.R_mono HO_254001.out (fun _ hk => ⟨hk.1.1, hk.1.2⟩)⟩, ⟨by (with_reducible repeat (first | apply Kd.RqA | apply Kd.RqN | apply Kd.RqD)); exact Kd.R_mono HO_260001.out (fun _ hk => ⟨hk.1, hk.2.1⟩)⟩, ⟨by (with_reducible repeat (first | refine kQN ?_ _ | refine kQD ?_ | refine kQA ?_ _)); exact BK237.out⟩, ⟨by (with_reducible repeat (first | refine kQN ?_ _ | refine kQD ?_ | refine kQA ?_ _)); exact BK248.out⟩, ⟨by (with_reducible repeat (first | refine kQN ?_ _ | refine kQD ?_ | refine kQA ?_ _)); exact BK253.out⟩, ⟨by (with_reducible repeat (first | refine kQN ?_ _ | refine kQD ?_ | refine kQA ?_ _)); exact BK259.out⟩, ⟨by repeat (first | (with_reducible first | exact HB.out | apply bQA | apply bQN | apply bQ1 | refine bQS ?_ GE237.out | refine bQS ?_ GE248.out | refine bQS ?_ GE253.out | refine bQS ?_ GE259.out) | exact HB.out)⟩⟩
        ·replace c72 := Bool.eq_false_iff.mpr c72
         subst c72
         have H1 : (laws_FnExactKernelOf.j1 kj10 t247 true a0_0 l0_1 t243 t244 t254 t255) = some r := by rw [if_neg (show ¬ (false = true) by decide)] at H; exact H
         clear H
         have H := H1
         clear H1
         have H' := Aq.mk H
         clear H
         have hnb81 := NB259_237.out
         have hnc81 := NB237_259.out
         have hnb82 := NB259_248.out
         have hnc82 := NB248_259.out
         have hnb83 := NB259_253.out
         have hnc83 := NB253_259.out
         have hcz84_0 : w69.cell? ⟨gb259, 0, none⟩ = some (.int .i64 t254) := (kQC BK259.out 0).trans rfl
         have hcz84_1 : w69.cell? ⟨gb259, 1, none⟩ = some (.slice Ao36 t255.length co36) := (kQC BK259.out 1).trans rfl
         have hfz84_0 := kQF BK259.out 0
         have hfz84_1 := kQF BK259.out 1
         have hnb85 := NB248_237.out
         have hnc85 := NB237_248.out
         have hnb86 := NB248_253.out
         have hnc86 := NB253_248.out
         have hcz87_0 : w69.cell? ⟨gb248, 0, none⟩ = some (.int .i64 t243) := (kQC BK248.out 0).trans rfl
         have hcz87_1 : w69.cell? ⟨gb248, 1, none⟩ = some (.slice Ao22 t244.length co22) := (kQC BK248.out 1).trans rfl
         have hfz87_0 := kQF BK248.out 0
         have hfz87_1 := kQF BK248.out 1
         go_wp2_with (first | (go_at_call 19; (with_reducible refine (laws_eqMatrix.calls kj10 t254 _ _ t255 t243 _ _ t244 false _ ?side1 ?side2 ?side3 ?side4 A71.out).mono ?_); (case side1 => repeat (first | exact (Kd.R_reads' HO_260001.out).2.2 | (with_reducible refine Kd.CqA ?_ _) | (with_reducible refine Kd.CqN ?_ _) | (with_reducible refine Kd.CqD ?_))); (case side2 => exact (Kd.R_reads' HO_260001.out).2.1); (case side3 => repeat (first | exact (Kd.R_reads' HO_249001.out).2.2 | (with_reducible refine Kd.CqA ?_ _) | (with_reducible refine Kd.CqN ?_ _) | (with_reducible refine Kd.CqD ?_))); (case side4 => exact (Kd.R_reads' HO_249001.out).2.1); rintro e w88 ⟨rfl, hb⟩; have n0_ := Aq.mk (Kd.R_below (by (with_reducible repeat (first | apply Kd.RqA | apply Kd.RqN | apply Kd.RqD)); exact HO_249001.out) hb); have n1_ := Aq.mk (Kd.R_below (by (with_reducible repeat (first | apply Kd.RqA | apply Kd.RqN | apply Kd.RqD)); exact HO_254001.out) hb); have n2_ := Aq.mk (Kd.R_below (by (with_reducible repeat (first | apply Kd.RqA | apply Kd.RqN | apply Kd.RqD)); exact HO_260001.out) hb); have n3_ := Aq.mk (Kd.R_below (by (with_reducible repeat (first | apply Kd.RqA | apply Kd.RqN | apply Kd.RqD)); exact HO264.out) hb); have n4_ := Aq.mk (kQB (g := gb237) (o := .cells #[.int .i64 a0_0, .slice A0_1 l0_1.length c0_1] 24 (0, 0)) (by (with_reducible repeat (first | refine kQN ?_ _ | refine kQD ?_ | refine kQA ?_ _)); exact BK237.out) hb); have n5_ := Aq.mk (kQB (g := gb248) (o := .cells #[.int .i64 t243, .slice Ao22 t244.length co22] 26 (0, 0)) (by (with_reducible repeat (first | refine kQN ?_ _ | refine kQD ?_ | refine kQA ?_ _)); exact BK248.out) hb); have n6_ := Aq.mk (kQB (g := gb253) (o := .cells #[.int .i64 t249, .slice Ao29 t250.length co29] 26 (0, 0)) (by (with_reducible repeat (first | refine kQN ?_ _ | refine kQD ?_ | refine kQA ?_ _)); exact BK253.out) hb); have n7_ := Aq.mk (kQB (g := gb259) (o := .cells #[.int .i64 t254, .slice Ao36 t255.length co36] 26 (0, 0)) (by (with_reducible repeat (first | refine kQN ?_ _ | refine kQD ?_ | refine kQA ?_ _)); exact BK259.out) hb); have n8_ := Aq.mk (bQT (by repeat (first | (with_reducible first | exact HB.out | apply bQA | apply bQN | apply bQ1 | refine bQS ?_ GE237.out | refine bQS ?_ GE248.out | refine bQS ?_ GE253.out | refine bQS ?_ GE259.out) | exact HB.out)) hb); clear HO_249001; clear HO_254001; clear HO_260001; clear HO264; clear BK237; clear BK248; clear BK253; clear BK259; clear HB; have HO_249001 := n0_; have HO_254001 := n1_; have HO_260001 := n2_; have HO264 := n3_; have BK237 := n4_; have BK248 := n5_; have BK253 := n6_; have BK259 := n7_; have HB := n8_; clear n0_ n1_ n2_ n3_ n4_ n5_ n6_ n7_ n8_; (try clear hb); (try clear hb2); (try clear hk); (try clear hi)))
         go_meet
         case rel => exact ⟨_, (true), (by first | rfl | (simp; done) | (simp [*]; done)), H', ⟨by have := HJ10.out; first | omega | exact Nat.le_refl _⟩, ⟨by (with_reducible repeat (first | apply Kd.RqA | apply Kd.RqN | apply Kd.RqD)); exact Kd.R_mono HO_249001.out (fun _ hk => ⟨hk.1, hk.2.1⟩)⟩, ⟨by (with_reducible repeat (first | apply Kd.RqA | apply Kd.RqN | apply Kd.RqD)); exact Kd.R_mono HO_254001.out (fun _ hk => ⟨hk.1.1, hk.1.2⟩)⟩, ⟨by (with_reducible repeat (first | apply Kd.RqA | apply Kd.RqN | apply Kd.RqD)); exact Kd.R_mono HO_260001.out (fun _ hk => ⟨hk.1, hk.2.1⟩)⟩, ⟨by (with_reducible repeat (first | refine kQN ?_ _ | refine kQD ?_ | refine kQA ?_ _)); exact BK237.out⟩, ⟨by (with_reducible repeat (first | refine kQN ?_ _ | refine kQD ?_ | refine kQA ?_ _)); exact BK248.out⟩, ⟨by (with_reducible repeat (first | refine kQN ?_ _ | refine kQD ?_ | refine kQA ?_ _)); exact BK253.out⟩, ⟨by (with_reducible repeat (first | refine kQN ?_ _ | refine kQD ?_ | refine kQA ?_ _)); exact BK259.out⟩, ⟨by repeat (first | (with_reducible first | exact HB.out | apply bQA | apply bQN | apply bQ1 | refine bQS ?_ GE237.out | refine bQS ?_ GE248.out | refine bQS ?_ GE253.out | refine bQS ?_ GE259.out) | exact HB.out)⟩⟩
      case rest =>
       clear HC60
       try clear c1
       try clear c2
       try clear p2
       try clear c3
       try clear c3b0
       try clear c4
       try clear c5
       try clear c6
       try clear c7
       try clear c8
       try clear c15
       try clear c16
       try clear c17
       try clear c18
       try clear c19
       try clear c20
       try clear c26
       try clear c27
       try clear c32
       try clear c33
       try clear c34
       try clear c38
       try clear c39
       try clear c40
       try clear c41
       try clear c43
       try clear c44
       try clear c47
       try clear c48
       try clear c49
       try clear c51
       try clear c52
       try clear c55
       try clear c58
       try clear c65
       try clear c66
       try clear c67
       try clear c70
       try clear c70b0
       try clear c72
       try clear c73
       try clear c74
       try clear c75
       try clear c77
       try clear c78
       try clear c81
       try clear c82
       try clear c83
       try clear c85
       try clear c86
       try clear hcz13_0
       try clear hcz13_1
       try clear hcz15_0
       try clear hcz15_1
       try clear hcz21_0
       try clear hcz21_1
       try clear hcz23_0
       try clear hcz23_1
       try clear hcz28_0
       try clear hcz28_1
       try clear hcz35_0
       try clear hcz35_1
       try clear hcz42_0
       try clear hcz42_1
       try clear hcz45_0
       try clear hcz45_1
       try clear hcz50_0
       try clear hcz50_1
       try clear hcz53_0
       try clear hcz53_1
       try clear hcz5_0
       try clear hcz5_1
       try clear hcz68_0
       try clear hcz68_1
       try clear hcz76_0
       try clear hcz76_1
       try clear hcz79_0
       try clear hcz79_1
       try clear hcz84_0
       try clear hcz84_1
       try clear hcz87_0
       try clear hcz87_1
       try clear hfz13_0
       try clear hfz13_1
       try clear hfz15_0
       try clear hfz15_1
       try clear hfz21_0
       try clear hfz21_1
       try clear hfz23_0
       try clear hfz23_1
       try clear hfz28_0
       try clear hfz28_1
       try clear hfz35_0
       try clear hfz35_1
       try clear hfz42_0
       try clear hfz42_1
       try clear hfz45_0
       try clear hfz45_1
       try clear hfz50_0
       try clear hfz50_1
       try clear hfz53_0
       try clear hfz53_1
       try clear hfz5_0
       try clear hfz5_1
       try clear hfz68_0
       try clear hfz68_1
       try clear hfz76_0
       try clear hfz76_1
       try clear hfz79_0
       try clear hfz79_1
       try clear hfz84_0
       try clear hfz84_1
       try clear hfz87_0
       try clear hfz87_1
       try clear p2
       obtain ⟨kq, x61_59, rfl, HA, HJ59, HO_249001, HO_254001, HO_260001, BK237, BK248, BK253, BK259, HB⟩ := hcut
       have hl254001_59 := (Kd.R_reads' HO_254001.out).1
       rw [hl254001_59] at HO_254001
       (try simp only [hl254001_59])
       (try simp only [hl254001_59] at BK237)
       (try simp only [hl254001_59] at BK248)
       (try simp only [hl254001_59] at BK253)
       (try simp only [hl254001_59] at BK259)
       (try simp only [hl254001_59] at HO_249001)
       (try simp only [hl254001_59] at HO_260001)
       cases kq with
       | zero => exact absurd HA.out (by simp [laws_FnExactKernelOf.j1])
       | succ kj59 =>
        have H := HA.out
        clear HA
        simp only [laws_FnExactKernelOf.j1] at H
        by_cases c89 : x61_59 = true
        ·subst c89
         have H1 : (some false) = some r := by rw [if_pos rfl] at H; exact H
         clear H
         have H := H1
         clear H1
         obtain rfl := Option.some.inj H
         go_wp2
         go_ret
         exact ⟨by first | rfl | (simp [errW_none, errW_some] <;> rfl) | (simp [*, errW_none, errW_some] <;> rfl), by repeat (first | (with_reducible first | exact HB.out | apply bQA | apply bQN | apply bQ1 | refine bQS ?_ GE237.out | refine bQS ?_ GE248.out | refine bQS ?_ GE253.out | refine bQS ?_ GE259.out) | exact HB.out)⟩
        ·replace c89 := Bool.eq_false_iff.mpr c89
         subst c89
         have H1 : ((laws_markMatrix.f kj59 t254 t255 1).bind fun bt269 => ((laws_heldMatrix.f kj59 t254 bt269.2 1).bind fun t271 => (if t271 < 0 then (some false) else (if t271 = bt269.1 then ((laws_toMatrix.f kj59 a0_0 l0_1).bind fun bt272 => ((impl_KernelOf.f kj59 bt272.1 bt272.2).bind fun bt276 => ((laws_eqMatrix.f kj59 bt276.1 bt276.2.1 t243 t244).bind fun t282 => (if t282 = true then (laws_FnExactKernelOf.j2 kj59 bt269.1 (bt276.2.2 != t247) t254 bt269.2) else (laws_FnExactKernelOf.j2 kj59 bt269.1 true t254 bt269.2))))) else (some false))))) = some r := by rw [if_neg (show ¬ (false = true) by decide)] at H; exact H
         clear H
         have H := H1
         clear H1
         replace H := Option.bind_eq_some_iff.mp H
         obtain ⟨⟨t269, t270⟩, A900, H⟩ := H
         replace H : ((laws_heldMatrix.f kj59 t254 t270 1).bind fun t271 => (if t271 < 0 then (some false) else (if t271 = t269 then ((laws_toMatrix.f kj59 a0_0 l0_1).bind fun bt272 => ((impl_KernelOf.f kj59 bt272.1 bt272.2).bind fun bt276 => ((laws_eqMatrix.f kj59 bt276.1 bt276.2.1 t243 t244).bind fun t282 => (if t282 = true then (laws_FnExactKernelOf.j2 kj59 t269 (bt276.2.2 != t247) t254 t270) else (laws_FnExactKernelOf.j2 kj59 t269 true t254 t270))))) else (some false)))) = some r := H
         have A90 := Aq.mk A900
         clear A900
         replace H := Option.bind_eq_some_iff.mp H
         obtain ⟨t271, A910, H⟩ := H
         replace H : (if t271 < 0 then (some false) else (if t271 = t269 then ((laws_toMatrix.f kj59 a0_0 l0_1).bind fun bt272 => ((impl_KernelOf.f kj59 bt272.1 bt272.2).bind fun bt276 => ((laws_eqMatrix.f kj59 bt276.1 bt276.2.1 t243 t244).bind fun t282 => (if t282 = true then (laws_FnExactKernelOf.j2 kj59 t269 (bt276.2.2 != t247) t254 t270) else (laws_FnExactKernelOf.j2 kj59 t269 true t254 t270))))) else (some false))) = some r := H
         have A91 := Aq.mk A910
         clear A910
         by_cases c92 : t271 < 0
         ·rw [if_pos c92] at H
          have c92b0 : decide (t271 < 0) = true := decide_eq_true c92
          clear c92
          (try (have c92b0z := c92b0; simp only [hl254001_59] at c92b0z))
          obtain rfl := Option.some.inj H
          have hnb93 := NB259_237.out
          have hnc93 := NB237_259.out
          have hnb94 := NB259_248.out
          have hnc94 := NB248_259.out
          have hnb95 := NB259_253.out
          have hnc95 := NB253_259.out
          have hcz96_0 : wc.cell? ⟨gb259, 0, none⟩ = some (.int .i64 t254) := (kQC BK259.out 0).trans rfl
          have hcz96_1 : wc.cell? ⟨gb259, 1, none⟩ = some (.slice Ao36 t255.length co36) := (kQC BK259.out 1).trans rfl
          have hfz96_0 := kQF BK259.out 0
          have hfz96_1 := kQF BK259.out 1
          go_wp2_with (first | ((with_reducible refine gQc (f := 20) rfl ?_); refine goesL_ (some 64) rfl rfl Try.func20 (by kernel_rfl) rfl #[.agg #[.int .i64 t254, .slice Ao36 t255.length co36], .int .i64 1] rfl (by (try simp only [List.map_toArray, List.map_cons, List.map_nil]); first | done | rfl | (simp only [List.length_drop, List.length_take]; rfl)) ?_; (with_reducible refine (laws_markMatrix.calls kj59 t254 (fun k_ => some k_ = (.slice Ao36 t255.length co36 : Value).ownBlock) (.slice Ao36 t255.length co36) t255 1 t269 t270 w _ ?side1 ?side2 A90.out).mono ?_); (case side1 => repeat (first | (with_reducible first | exact HB.out | apply bQA | apply bQN | apply bQ1 | refine bQS ?_ GE237.out | refine bQS ?_ GE248.out | refine bQS ?_ GE253.out | refine bQS ?_ GE259.out) | exact HB.out)); (case side2 => exact Kd.R_tight rfl HO_260001.out); rintro e w97 ⟨rfl, hy0, hb, hkp⟩; refine ⟨_, rfl, ?_⟩; have n0_ := Aq.mk (Kd.R_mono (ok' := fun k_ => some k_ ≠ (.slice Ao29 t267.length co29 : Value).ownBlock ∧ some k_ ≠ (.slice Ao36 t255.length co36 : Value).ownBlock) (Kd.R_keptB (HO_249001.out) hkp (fun k_ hk_ hs_ => (hk_.2) hs_)) (fun k_ hk_ => ⟨hk_.1.1, hk_.1.2⟩)); have n1_ := Aq.mk (Kd.R_mono (ok' := fun k_ => some k_ ≠ (.slice Ao22 t244.length co22 : Value).ownBlock ∧ some k_ ≠ (.slice Ao36 t255.length co36 : Value).ownBlock) (Kd.R_keptB (HO_254001.out) hkp (fun k_ hk_ hs_ => (hk_.2) hs_)) (fun k_ hk_ => ⟨hk_.1.1, hk_.1.2⟩)); have n2_ := Aq.mk (Kd.R_reok rfl hy0 (fun k_ e_ => HO_260001.out.1 k_ e_)); have n3_ := Aq.mk (blk_kept (by (with_reducible repeat (first | refine kQN ?_ _ | refine kQD ?_ | refine kQA ?_ _)); exact BK237.out) hkp (fun hs_ => (fun e_ => (Kd.R_ne HO_260001.out BK237.out (by decide)) e_) hs_)); have n4_ := Aq.mk (blk_kept (by (with_reducible repeat (first | refine kQN ?_ _ | refine kQD ?_ | refine kQA ?_ _)); exact BK248.out) hkp (fun hs_ => (fun e_ => (Kd.R_ne HO_260001.out BK248.out (by decide)) e_) hs_)); have n5_ := Aq.mk (blk_kept (by (with_reducible repeat (first | refine kQN ?_ _ | refine kQD ?_ | refine kQA ?_ _)); exact BK253.out) hkp (fun hs_ => (fun e_ => (Kd.R_ne HO_260001.out BK253.out (by decide)) e_) hs_)); have n6_ := Aq.mk (blk_kept (by (with_reducible repeat (first | refine kQN ?_ _ | refine kQD ?_ | refine kQA ?_ _)); exact BK259.out) hkp (fun hs_ => (fun e_ => (Kd.R_ne HO_260001.out BK259.out (by decide)) e_) hs_)); have n7_ := Aq.mk (hb); clear HO_249001; clear HO_254001; clear HO_260001; clear BK237; clear BK248; clear BK253; clear BK259; clear HB; have HO_249001 := n0_; have HO_254001 := n1_; have HO_260001 := n2_; have BK237 := n3_; have BK248 := n4_; have BK253 := n5_; have BK259 := n6_; have HB := n7_; clear n0_ n1_ n2_ n3_ n4_ n5_ n6_ n7_; (try clear hb); (try clear hkp); (try clear hy0); have hcz98_0 : w97.cell? ⟨gb259, 0, none⟩ = some (.int .i64 t254) := (kQC BK259.out 0).trans rfl; have hcz98_1 : w97.cell? ⟨gb259, 1, none⟩ = some (.slice Ao36 t255.length co36) := (kQC BK259.out 1).trans rfl; have hfz98_0 := kQF BK259.out 0; have hfz98_1 := kQF BK259.out 1) | ((with_reducible refine gQc (f := 21) rfl ?_); refine goesL_ (some 67) rfl rfl Try.func21 (by kernel_rfl) rfl #[.agg #[.int .i64 t254, .slice Ao36 t270.length co36], .int .i64 1] rfl (by (try simp only [List.map_toArray, List.map_cons, List.map_nil]); first | done | (rw [show t270.length = t255.length from (Kd.R_reads' HO_260001.out).1.symm] <;> rfl) | rfl | (simp only [List.length_drop, List.length_take]; rfl)) ?_; (with_reducible refine (laws_heldMatrix.calls kj59 t254 _ _ t270 1 t271 _ ?side1 ?side2 A91.out).mono ?_); (case side1 => repeat (first | exact (Kd.R_reads' HO_260001.out).2.2 | (with_reducible refine Kd.CqA ?_ _) | (with_reducible refine Kd.CqN ?_ _) | (with_reducible refine Kd.CqD ?_))); (case side2 => rw [show t270.length = t255.length from (Kd.R_reads' HO_260001.out).1.symm]; exact (Kd.R_reads' HO_260001.out).2.1); rintro e w99 ⟨rfl, hb⟩; refine ⟨_, rfl, ?_⟩; have n0_ := Aq.mk (Kd.R_below (by (with_reducible repeat (first | apply Kd.RqA | apply Kd.RqN | apply Kd.RqD)); exact HO_249001.out) hb); have n1_ := Aq.mk (Kd.R_below (by (with_reducible repeat (first | apply Kd.RqA | apply Kd.RqN | apply Kd.RqD)); exact HO_254001.out) hb); have n2_ := Aq.mk (Kd.R_below (by (with_reducible repeat (first | apply Kd.RqA | apply Kd.RqN | apply Kd.RqD)); exact HO_260001.out) hb); have n3_ := Aq.mk (kQB (g := gb237) (o := .cells #[.int .i64 a0_0, .slice A0_1 l0_1.length c0_1] 24 (0, 0)) (by (with_reducible repeat (first | refine kQN ?_ _ | refine kQD ?_ | refine kQA ?_ _)); exact BK237.out) hb); have n4_ := Aq.mk (kQB (g := gb248) (o := .cells #[.int .i64 t243, .slice Ao22 t244.length co22] 26 (0, 0)) (by (with_reducible repeat (first | refine kQN ?_ _ | refine kQD ?_ | refine kQA ?_ _)); exact BK248.out) hb); have n5_ := Aq.mk (kQB (g := gb253) (o := .cells #[.int .i64 t249, .slice Ao29 t267.length co29] 26 (0, 0)) (by (with_reducible repeat (first | refine kQN ?_ _ | refine kQD ?_ | refine kQA ?_ _)); exact BK253.out) hb); have n6_ := Aq.mk (kQB (g := gb259) (o := .cells #[.int .i64 t254, .slice Ao36 t255.length co36] 26 (0, 0)) (by (with_reducible repeat (first | refine kQN ?_ _ | refine kQD ?_ | refine kQA ?_ _)); exact BK259.out) hb); have n7_ := Aq.mk (bQT (by repeat (first | (with_reducible first | exact HB.out | apply bQA | apply bQN | apply bQ1 | refine bQS ?_ GE237.out | refine bQS ?_ GE248.out | refine bQS ?_ GE253.out | refine bQS ?_ GE259.out) | exact HB.out)) hb); clear HO_249001; clear HO_254001; clear HO_260001; clear BK237; clear BK248; clear BK253; clear BK259; clear HB; have HO_249001 := n0_; have HO_254001 := n1_; have HO_260001 := n2_; have BK237 := n3_; have BK248 := n4_; have BK253 := n5_; have BK259 := n6_; have HB := n7_; clear n0_ n1_ n2_ n3_ n4_ n5_ n6_ n7_; (try clear hb); (try clear hb2); (try clear hk); (try clear hi)))
          go_ret
          exact ⟨by first | rfl | (simp [errW_none, errW_some] <;> rfl) | (simp [*, errW_none, errW_some] <;> rfl), by repeat (first | (with_reducible first | exact HB.out | apply bQA | apply bQN | apply bQ1 | refine bQS ?_ GE237.out | refine bQS ?_ GE248.out | refine bQS ?_ GE253.out | refine bQS ?_ GE259.out) | exact HB.out)⟩
         ·rw [if_neg c92] at H
          have c92b0 : decide (t271 < 0) = false := decide_eq_false c92
          clear c92
          (try (have c92b0z := c92b0; simp only [hl254001_59] at c92b0z))
          by_cases c100 : t271 = t269
          ·rw [if_pos c100] at H
           have c100b0 : (t271 == t269) = true := beq_iff_eq.mpr c100
           have c100b1 : (t271 != t269) = false := bne_eq_false_iff_eq.mpr c100
           clear c100
           (try (have c100b0z := c100b0; simp only [hl254001_59] at c100b0z))
           (try (have c100b1z := c100b1; simp only [hl254001_59] at c100b1z))
           replace H := Option.bind_eq_some_iff.mp H
           obtain ⟨⟨t272, t273⟩, A1010, H⟩ := H
           replace H : ((impl_KernelOf.f kj59 t272 t273).bind fun bt276 => ((laws_eqMatrix.f kj59 bt276.1 bt276.2.1 t243 t244).bind fun t282 => (if t282 = true then (laws_FnExactKernelOf.j2 kj59 t269 (bt276.2.2 != t247) t254 t270) else (laws_FnExactKernelOf.j2 kj59 t269 true t254 t270)))) = some r := H
           have A101 := Aq.mk A1010
           clear A1010
           replace H := Option.bind_eq_some_iff.mp H
           obtain ⟨⟨t276, t277, t280⟩, A1020, H⟩ := H
           replace H : ((laws_eqMatrix.f kj59 t276 t277 t243 t244).bind fun t282 => (if t282 = true then (laws_FnExactKernelOf.j2 kj59 t269 (t280 != t247) t254 t270) else (laws_FnExactKernelOf.j2 kj59 t269 true t254 t270))) = some r := H
           have A102 := Aq.mk A1020
           clear A1020
           have HC103 := Aq.mk H
           clear H
           have hnb104 := NB259_237.out
           have hnc104 := NB237_259.out
           have hnb105 := NB259_248.out
           have hnc105 := NB248_259.out
           have hnb106 := NB259_253.out
           have hnc106 := NB253_259.out
           have hcz107_0 : wc.cell? ⟨gb259, 0, none⟩ = some (.int .i64 t254) := (kQC BK259.out 0).trans rfl
           have hcz107_1 : wc.cell? ⟨gb259, 1, none⟩ = some (.slice Ao36 t255.length co36) := (kQC BK259.out 1).trans rfl
           have hfz107_0 := kQF BK259.out 0
           have hfz107_1 := kQF BK259.out 1
           go_upto_region 25 with (first | ((with_reducible refine gQc (f := 20) rfl ?_); refine goesL_ (some 64) rfl rfl Try.func20 (by kernel_rfl) rfl #[.agg #[.int .i64 t254, .slice Ao36 t255.length co36], .int .i64 1] rfl (by (try simp only [List.map_toArray, List.map_cons, List.map_nil]); first | done | rfl | (simp only [List.length_drop, List.length_take]; rfl)) ?_; (with_reducible refine (laws_markMatrix.calls kj59 t254 (fun k_ => some k_ = (.slice Ao36 t255.length co36 : Value).ownBlock) (.slice Ao36 t255.length co36) t255 1 t269 t270 w _ ?side1 ?side2 A90.out).mono ?_); (case side1 => repeat (first | (with_reducible first | exact HB.out | apply bQA | apply bQN | apply bQ1 | refine bQS ?_ GE237.out | refine bQS ?_ GE248.out | refine bQS ?_ GE253.out | refine bQS ?_ GE259.out) | exact HB.out)); (case side2 => exact Kd.R_tight rfl HO_260001.out); rintro e w108 ⟨rfl, hy0, hb, hkp⟩; refine ⟨_, rfl, ?_⟩; have n0_ := Aq.mk (Kd.R_mono (ok' := fun k_ => some k_ ≠ (.slice Ao29 t267.length co29 : Value).ownBlock ∧ some k_ ≠ (.slice Ao36 t255.length co36 : Value).ownBlock) (Kd.R_keptB (HO_249001.out) hkp (fun k_ hk_ hs_ => (hk_.2) hs_)) (fun k_ hk_ => ⟨hk_.1.1, hk_.1.2⟩)); have n1_ := Aq.mk (Kd.R_mono (ok' := fun k_ => some k_ ≠ (.slice Ao22 t244.length co22 : Value).ownBlock ∧ some k_ ≠ (.slice Ao36 t255.length co36 : Value).ownBlock) (Kd.R_keptB (HO_254001.out) hkp (fun k_ hk_ hs_ => (hk_.2) hs_)) (fun k_ hk_ => ⟨hk_.1.1, hk_.1.2⟩)); have n2_ := Aq.mk (Kd.R_reok rfl hy0 (fun k_ e_ => HO_260001.out.1 k_ e_)); have n3_ := Aq.mk (blk_kept (by (with_reducible repeat (first | refine kQN ?_ _ | refine kQD ?_ | refine kQA ?_ _)); exact BK237.out) hkp (fun hs_ => (fun e_ => (Kd.R_ne HO_260001.out BK237.out (by decide)) e_) hs_)); have n4_ := Aq.mk (blk_kept (by (with_reducible repeat (first | refine kQN ?_ _ | refine kQD ?_ | refine kQA ?_ _)); exact BK248.out) hkp (fun hs_ => (fun e_ => (Kd.R_ne HO_260001.out BK248.out (by decide)) e_) hs_)); have n5_ := Aq.mk (blk_kept (by (with_reducible repeat (first | refine kQN ?_ _ | refine kQD ?_ | refine kQA ?_ _)); exact BK253.out) hkp (fun hs_ => (fun e_ => (Kd.R_ne HO_260001.out BK253.out (by decide)) e_) hs_)); have n6_ := Aq.mk (blk_kept (by (with_reducible repeat (first | refine kQN ?_ _ | refine kQD ?_ | refine kQA ?_ _)); exact BK259.out) hkp (fun hs_ => (fun e_ => (Kd.R_ne HO_260001.out BK259.out (by decide)) e_) hs_)); have n7_ := Aq.mk (hb); clear HO_249001; clear HO_254001; clear HO_260001; clear BK237; clear BK248; clear BK253; clear BK259; clear HB; have HO_249001 := n0_; have HO_254001 := n1_; have HO_260001 := n2_; have BK237 := n3_; have BK248 := n4_; have BK253 := n5_; have BK259 := n6_; have HB := n7_; clear n0_ n1_ n2_ n3_ n4_ n5_ n6_ n7_; (try clear hb); (try clear hkp); (try clear hy0); have hcz109_0 : w108.cell? ⟨gb259, 0, none⟩ = some (.int .i64 t254) := (kQC BK259.out 0).trans rfl; have hcz109_1 : w108.cell? ⟨gb259, 1, none⟩ = some (.slice Ao36 t255.length co36) := (kQC BK259.out 1).trans rfl; have hfz109_0 := kQF BK259.out 0; have hfz109_1 := kQF BK259.out 1) | ((with_reducible refine gQc (f := 21) rfl ?_); refine goesL_ (some 67) rfl rfl Try.func21 (by kernel_rfl) rfl #[.agg #[.int .i64 t254, .slice Ao36 t270.length co36], .int .i64 1] rfl (by (try simp only [List.map_toArray, List.map_cons, List.map_nil]); first | done | (rw [show t270.length = t255.length from (Kd.R_reads' HO_260001.out).1.symm] <;> rfl) | rfl | (simp only [List.length_drop, List.length_take]; rfl)) ?_; (with_reducible refine (laws_heldMatrix.calls kj59 t254 _ _ t270 1 t271 _ ?side1 ?side2 A91.out).mono ?_); (case side1 => repeat (first | exact (Kd.R_reads' HO_260001.out).2.2 | (with_reducible refine Kd.CqA ?_ _) | (with_reducible refine Kd.CqN ?_ _) | (with_reducible refine Kd.CqD ?_))); (case side2 => rw [show t270.length = t255.length from (Kd.R_reads' HO_260001.out).1.symm]; exact (Kd.R_reads' HO_260001.out).2.1); rintro e w110 ⟨rfl, hb⟩; refine ⟨_, rfl, ?_⟩; have n0_ := Aq.mk (Kd.R_below (by (with_reducible repeat (first | apply Kd.RqA | apply Kd.RqN | apply Kd.RqD)); exact HO_249001.out) hb); have n1_ := Aq.mk (Kd.R_below (by (with_reducible repeat (first | apply Kd.RqA | apply Kd.RqN | apply Kd.RqD)); exact HO_254001.out) hb); have n2_ := Aq.mk (Kd.R_below (by (with_reducible repeat (first | apply Kd.RqA | apply Kd.RqN | apply Kd.RqD)); exact HO_260001.out) hb); have n3_ := Aq.mk (kQB (g := gb237) (o := .cells #[.int .i64 a0_0, .slice A0_1 l0_1.length c0_1] 24 (0, 0)) (by (with_reducible repeat (first | refine kQN ?_ _ | refine kQD ?_ | refine kQA ?_ _)); exact BK237.out) hb); have n4_ := Aq.mk (kQB (g := gb248) (o := .cells #[.int .i64 t243, .slice Ao22 t244.length co22] 26 (0, 0)) (by (with_reducible repeat (first | refine kQN ?_ _ | refine kQD ?_ | refine kQA ?_ _)); exact BK248.out) hb); have n5_ := Aq.mk (kQB (g := gb253) (o := .cells #[.int .i64 t249, .slice Ao29 t267.length co29] 26 (0, 0)) (by (with_reducible repeat (first | refine kQN ?_ _ | refine kQD ?_ | refine kQA ?_ _)); exact BK253.out) hb); have n6_ := Aq.mk (kQB (g := gb259) (o := .cells #[.int .i64 t254, .slice Ao36 t255.length co36] 26 (0, 0)) (by (with_reducible repeat (first | refine kQN ?_ _ | refine kQD ?_ | refine kQA ?_ _)); exact BK259.out) hb); have n7_ := Aq.mk (bQT (by repeat (first | (with_reducible first | exact HB.out | apply bQA | apply bQN | apply bQ1 | refine bQS ?_ GE237.out | refine bQS ?_ GE248.out | refine bQS ?_ GE253.out | refine bQS ?_ GE259.out) | exact HB.out)) hb); clear HO_249001; clear HO_254001; clear HO_260001; clear BK237; clear BK248; clear BK253; clear BK259; clear HB; have HO_249001 := n0_; have HO_254001 := n1_; have HO_260001 := n2_; have BK237 := n3_; have BK248 := n4_; have BK253 := n5_; have BK259 := n6_; have HB := n7_; clear n0_ n1_ n2_ n3_ n4_ n5_ n6_ n7_; (try clear hb); (try clear hb2); (try clear hk); (try clear hi); have hnb111 := NB237_248.out; have hnc111 := NB248_237.out; have hnb112 := NB237_253.out; have hnc112 := NB253_237.out; have hcz113_0 : w110.cell? ⟨gb237, 0, none⟩ = some (.int .i64 a0_0) := (kQC BK237.out 0).trans rfl; have hcz113_1 : w110.cell? ⟨gb237, 1, none⟩ = some (.slice A0_1 l0_1.length c0_1) := (kQC BK237.out 1).trans rfl; have hfz113_0 := kQF BK237.out 0; have hfz113_1 := kQF BK237.out 1) | ((with_reducible refine gQc (f := 17) rfl ?_); refine goesL_ (some 75) rfl rfl Try.func17 (by kernel_rfl) rfl #[.agg #[.int .i64 a0_0, .slice A0_1 l0_1.length c0_1]] rfl (by (try simp only [List.map_toArray, List.map_cons, List.map_nil]); first | done | rfl | (simp only [List.length_drop, List.length_take]; rfl)) ?_; (with_reducible refine (laws_toMatrix.calls kj59 a0_0 _ _ l0_1 t272 t273 _ ?side1 ?side2 A101.out).mono ?_); (case side1 => repeat (first | exact (Kd.C_below HR0_1.out HB.out) | (with_reducible refine Kd.CqA ?_ _) | (with_reducible refine Kd.CqN ?_ _) | (with_reducible refine Kd.CqD ?_))); (case side2 => exact HC0_1.out); rintro e w114 ⟨v274, rfl, ho0, hb⟩; refine ⟨_, rfl, ?_⟩; have n0_ := Aq.mk (Kd.R_elder' (by (with_reducible repeat (first | apply Kd.RqA | apply Kd.RqN | apply Kd.RqD)); exact HO_249001.out) (Kd.R_base ho0) hb); have n1_ := Aq.mk (Kd.R_elder' (by (with_reducible repeat (first | apply Kd.RqA | apply Kd.RqN | apply Kd.RqD)); exact HO_254001.out) (Kd.R_base ho0) hb); have n2_ := Aq.mk (Kd.R_elder' (by (with_reducible repeat (first | apply Kd.RqA | apply Kd.RqN | apply Kd.RqD)); exact HO_260001.out) (Kd.R_base ho0) hb); have n3_ := Aq.mk (Kd.R_lower (Kd.R_new' (Kd.R_new' (Kd.R_new' ho0 (Kd.R_lt (by (with_reducible repeat (first | apply Kd.RqA | apply Kd.RqN | apply Kd.RqD)); exact HO_249001.out))) (Kd.R_lt (by (with_reducible repeat (first | apply Kd.RqA | apply Kd.RqN | apply Kd.RqD)); exact HO_254001.out))) (Kd.R_lt (by (with_reducible repeat (first | apply Kd.RqA | apply Kd.RqN | apply Kd.RqD)); exact HO_260001.out))) (bQZ (by repeat (first | (with_reducible first | exact HB.out | apply bQA | apply bQN | apply bQ1 | refine bQS ?_ GE237.out | refine bQS ?_ GE248.out | refine bQS ?_ GE253.out | refine bQS ?_ GE259.out) | exact HB.out)))); have n4_ := Aq.mk (kQB (g := gb237) (o := .cells #[.int .i64 a0_0, .slice A0_1 l0_1.length c0_1] 24 (0, 0)) (by (with_reducible repeat (first | refine kQN ?_ _ | refine kQD ?_ | refine kQA ?_ _)); exact BK237.out) hb); have n5_ := Aq.mk (kQB (g := gb248) (o := .cells #[.int .i64 t243, .slice Ao22 t244.length co22] 26 (0, 0)) (by (with_reducible repeat (first | refine kQN ?_ _ | refine kQD ?_ | refine kQA ?_ _)); exact BK248.out) hb); have n6_ := Aq.mk (kQB (g := gb253) (o := .cells #[.int .i64 t249, .slice Ao29 t267.length co29] 26 (0, 0)) (by (with_reducible repeat (first | refine kQN ?_ _ | refine kQD ?_ | refine kQA ?_ _)); exact BK253.out) hb); have n7_ := Aq.mk (kQB (g := gb259) (o := .cells #[.int .i64 t254, .slice Ao36 t255.length co36] 26 (0, 0)) (by (with_reducible repeat (first | refine kQN ?_ _ | refine kQD ?_ | refine kQA ?_ _)); exact BK259.out) hb); have n8_ := Aq.mk (bQT (by repeat (first | (with_reducible first | exact HB.out | apply bQA | apply bQN | apply bQ1 | refine bQS ?_ GE237.out | refine bQS ?_ GE248.out | refine bQS ?_ GE253.out | refine bQS ?_ GE259.out) | exact HB.out)) hb); clear HO_249001; clear HO_254001; clear HO_260001; clear BK237; clear BK248; clear BK253; clear BK259; clear HB; have HO_249001 := n0_; have HO_254001 := n1_; have HO_260001 := n2_; have HO275 := n3_; have BK237 := n4_; have BK248 := n5_; have BK253 := n6_; have BK259 := n7_; have HB := n8_; clear n0_ n1_ n2_ n3_ n4_ n5_ n6_ n7_ n8_; (try clear hb); (try clear hb2); (try clear hk); (try clear hi); (try clear ho0); obtain ⟨Ao115, co115, eo115⟩ := Kd.R_slice HO275.out; subst eo115) | ((with_reducible refine gQc (f := 18) rfl ?_); refine goesL_ (some 76) rfl rfl Try.func18 (by kernel_rfl) rfl #[.agg #[.int .i64 t272, .slice Ao115 t273.length co115]] rfl (by (try simp only [List.map_toArray, List.map_cons, List.map_nil]); first | done | rfl | (simp only [List.length_drop, List.length_take]; rfl)) ?_; (with_reducible refine (impl_KernelOf.calls kj59 t272 _ _ t273 t276 t277 t280 _ ?side1 ?side2 A102.out).mono ?_); (case side1 => repeat (first | exact (Kd.R_reads' HO275.out).2.2 | (with_reducible refine Kd.CqA ?_ _) | (with_reducible refine Kd.CqN ?_ _) | (with_reducible refine Kd.CqD ?_))); (case side2 => exact (Kd.R_reads' HO275.out).2.1); rintro e w116 ⟨v278, rfl, ho0, hb⟩; refine ⟨_, rfl, ?_⟩; have n0_ := Aq.mk (Kd.R_elder' (by (with_reducible repeat (first | apply Kd.RqA | apply Kd.RqN | apply Kd.RqD)); exact HO_249001.out) (Kd.R_base ho0) hb); have n1_ := Aq.mk (Kd.R_elder' (by (with_reducible repeat (first | apply Kd.RqA | apply Kd.RqN | apply Kd.RqD)); exact HO_254001.out) (Kd.R_base ho0) hb); have n2_ := Aq.mk (Kd.R_elder' (by (with_reducible repeat (first | apply Kd.RqA | apply Kd.RqN | apply Kd.RqD)); exact HO_260001.out) (Kd.R_base ho0) hb); have n3_ := Aq.mk (Kd.R_elder' (by (with_reducible repeat (first | apply Kd.RqA | apply Kd.RqN | apply Kd.RqD)); exact HO275.out) (Kd.R_base ho0) hb); have n4_ := Aq.mk (Kd.R_lower (Kd.R_new' (Kd.R_new' (Kd.R_new' (Kd.R_new' ho0 (Kd.R_lt (by (with_reducible repeat (first | apply Kd.RqA | apply Kd.RqN | apply Kd.RqD)); exact HO_249001.out))) (Kd.R_lt (by (with_reducible repeat (first | apply Kd.RqA | apply Kd.RqN | apply Kd.RqD)); exact HO_254001.out))) (Kd.R_lt (by (with_reducible repeat (first | apply Kd.RqA | apply Kd.RqN | apply Kd.RqD)); exact HO_260001.out))) (Kd.R_lt (by (with_reducible repeat (first | apply Kd.RqA | apply Kd.RqN | apply Kd.RqD)); exact HO275.out))) (bQZ (by repeat (first | (with_reducible first | exact HB.out | apply bQA | apply bQN | apply bQ1 | refine bQS ?_ GE237.out | refine bQS ?_ GE248.out | refine bQS ?_ GE253.out | refine bQS ?_ GE259.out) | exact HB.out)))); have n5_ := Aq.mk (kQB (g := gb237) (o := .cells #[.int .i64 a0_0, .slice A0_1 l0_1.length c0_1] 24 (0, 0)) (by (with_reducible repeat (first | refine kQN ?_ _ | refine kQD ?_ | refine kQA ?_ _)); exact BK237.out) hb); have n6_ := Aq.mk (kQB (g := gb248) (o := .cells #[.int .i64 t243, .slice Ao22 t244.length co22] 26 (0, 0)) (by (with_reducible repeat (first | refine kQN ?_ _ | refine kQD ?_ | refine kQA ?_ _)); exact BK248.out) hb); have n7_ := Aq.mk (kQB (g := gb253) (o := .cells #[.int .i64 t249, .slice Ao29 t267.length co29] 26 (0, 0)) (by (with_reducible repeat (first | refine kQN ?_ _ | refine kQD ?_ | refine kQA ?_ _)); exact BK253.out) hb); have n8_ := Aq.mk (kQB (g := gb259) (o := .cells #[.int .i64 t254, .slice Ao36 t255.length co36] 26 (0, 0)) (by (with_reducible repeat (first | refine kQN ?_ _ | refine kQD ?_ | refine kQA ?_ _)); exact BK259.out) hb); have n9_ := Aq.mk (bQT (by repeat (first | (with_reducible first | exact HB.out | apply bQA | apply bQN | apply bQ1 | refine bQS ?_ GE237.out | refine bQS ?_ GE248.out | refine bQS ?_ GE253.out | refine bQS ?_ GE259.out) | exact HB.out)) hb); clear HO_249001; clear HO_254001; clear HO_260001; clear HO275; clear BK237; clear BK248; clear BK253; clear BK259; clear HB; have HO_249001 := n0_; have HO_254001 := n1_; have HO_260001 := n2_; have HO275 := n3_; have HO279 := n4_; have BK237 := n5_; have BK248 := n6_; have BK253 := n7_; have BK259 := n8_; have HB := n9_; clear n0_ n1_ n2_ n3_ n4_ n5_ n6_ n7_ n8_ n9_; (try clear hb); (try clear hb2); (try clear hk); (try clear hi); (try clear ho0)) | ((with_reducible refine gQd (N := 12) rfl ?_); refine xQe ?hg (N := 12) ?hd (cs := #[.int .i64 0, .slice none 0 0]) (t := 26) ?hr ?_; (case hd => rfl); (case hg => rfl); (case hr => first | (go_simp; done) | (go_simp; rfl)); intro gb281 hg w117 hbox hb; have n0_ := Aq.mk (Kd.R_below (by (with_reducible repeat (first | apply Kd.RqA | apply Kd.RqN | apply Kd.RqD)); exact HO_249001.out) hb); have n1_ := Aq.mk (Kd.R_below (by (with_reducible repeat (first | apply Kd.RqA | apply Kd.RqN | apply Kd.RqD)); exact HO_254001.out) hb); have n2_ := Aq.mk (Kd.R_below (by (with_reducible repeat (first | apply Kd.RqA | apply Kd.RqN | apply Kd.RqD)); exact HO_260001.out) hb); have n3_ := Aq.mk (Kd.R_below (by (with_reducible repeat (first | apply Kd.RqA | apply Kd.RqN | apply Kd.RqD)); exact HO275.out) hb); have n4_ := Aq.mk (Kd.R_below (by (with_reducible repeat (first | apply Kd.RqA | apply Kd.RqN | apply Kd.RqD)); exact HO279.out) hb); have n5_ := Aq.mk (kQB (g := gb237) (o := .cells #[.int .i64 a0_0, .slice A0_1 l0_1.length c0_1] 24 (0, 0)) (by (with_reducible repeat (first | refine kQN ?_ _ | refine kQD ?_ | refine kQA ?_ _)); exact BK237.out) hb); have n6_ := Aq.mk (kQB (g := gb248) (o := .cells #[.int .i64 t243, .slice Ao22 t244.length co22] 26 (0, 0)) (by (with_reducible repeat (first | refine kQN ?_ _ | refine kQD ?_ | refine kQA ?_ _)); exact BK248.out) hb); have n7_ := Aq.mk (kQB (g := gb253) (o := .cells #[.int .i64 t249, .slice Ao29 t267.length co29] 26 (0, 0)) (by (with_reducible repeat (first | refine kQN ?_ _ | refine kQD ?_ | refine kQA ?_ _)); exact BK253.out) hb); have n8_ := Aq.mk (kQB (g := gb259) (o := .cells #[.int .i64 t254, .slice Ao36 t255.length co36] 26 (0, 0)) (by (with_reducible repeat (first | refine kQN ?_ _ | refine kQD ?_ | refine kQA ?_ _)); exact BK259.out) hb); have n9_ := Aq.mk (bQT (by repeat (first | (with_reducible first | exact HB.out | apply bQA | apply bQN | apply bQ1 | refine bQS ?_ GE237.out | refine bQS ?_ GE248.out | refine bQS ?_ GE253.out | refine bQS ?_ GE259.out) | exact HB.out)) hb); have n10_ := Aq.mk (hbox); have n11_ := Aq.mk ((by rw [hg]; exact (bQZ (by repeat (first | (with_reducible first | exact HB.out | apply bQA | apply bQN | apply bQ1 | refine bQS ?_ GE237.out | refine bQS ?_ GE248.out | refine bQS ?_ GE253.out | refine bQS ?_ GE259.out) | exact HB.out))) : w.heap.size ≤ gb281)); have n12_ := Aq.mk ((by rw [hg]; exact (bQZ (by repeat (first | (with_reducible first | exact HB.out | apply bQA | apply bQN | apply bQ1 | refine bQS ?_ GE237.out | refine bQS ?_ GE248.out | refine bQS ?_ GE253.out | refine bQS ?_ GE259.out) | exact HB.out))) : w.heap.size ≤ gb281)); have n13_ := Aq.mk ((by rw [hg]; exact Nat.ne_of_lt (blk_lt (g := gb237) (o := .cells #[.int .i64 a0_0, .slice A0_1 l0_1.length c0_1] 24 (0, 0)) (by (with_reducible repeat (first | refine kQN ?_ _ | refine kQD ?_ | refine kQA ?_ _)); exact BK237.out)) : gb237 ≠ gb281)); have n14_ := Aq.mk ((by rw [hg]; exact Nat.ne_of_gt (blk_lt (g := gb237) (o := .cells #[.int .i64 a0_0, .slice A0_1 l0_1.length c0_1] 24 (0, 0)) (by (with_reducible repeat (first | refine kQN ?_ _ | refine kQD ?_ | refine kQA ?_ _)); exact BK237.out)) : gb281 ≠ gb237)); have n15_ := Aq.mk ((by rw [hg]; exact Nat.ne_of_lt (blk_lt (g := gb248) (o := .cells #[.int .i64 t243, .slice Ao22 t244.length co22] 26 (0, 0)) (by (with_reducible repeat (first | refine kQN ?_ _ | refine kQD ?_ | refine kQA ?_ _)); exact BK248.out)) : gb248 ≠ gb281)); have n16_ := Aq.mk ((by rw [hg]; exact Nat.ne_of_gt (blk_lt (g := gb248) (o := .cells #[.int .i64 t243, .slice Ao22 t244.length co22] 26 (0, 0)) (by (with_reducible repeat (first | refine kQN ?_ _ | refine kQD ?_ | refine kQA ?_ _)); exact BK248.out)) : gb281 ≠ gb248)); have n17_ := Aq.mk ((by rw [hg]; exact Nat.ne_of_lt (blk_lt (g := gb253) (o := .cells #[.int .i64 t249, .slice Ao29 t267.length co29] 26 (0, 0)) (by (with_reducible repeat (first | refine kQN ?_ _ | refine kQD ?_ | refine kQA ?_ _)); exact BK253.out)) : gb253 ≠ gb281)); have n18_ := Aq.mk ((by rw [hg]; exact Nat.ne_of_gt (blk_lt (g := gb253) (o := .cells #[.int .i64 t249, .slice Ao29 t267.length co29] 26 (0, 0)) (by (with_reducible repeat (first | refine kQN ?_ _ | refine kQD ?_ | refine kQA ?_ _)); exact BK253.out)) : gb281 ≠ gb253)); have n19_ := Aq.mk ((by rw [hg]; exact Nat.ne_of_lt (blk_lt (g := gb259) (o := .cells #[.int .i64 t254, .slice Ao36 t255.length co36] 26 (0, 0)) (by (with_reducible repeat (first | refine kQN ?_ _ | refine kQD ?_ | refine kQA ?_ _)); exact BK259.out)) : gb259 ≠ gb281)); have n20_ := Aq.mk ((by rw [hg]; exact Nat.ne_of_gt (blk_lt (g := gb259) (o := .cells #[.int .i64 t254, .slice Ao36 t255.length co36] 26 (0, 0)) (by (with_reducible repeat (first | refine kQN ?_ _ | refine kQD ?_ | refine kQA ?_ _)); exact BK259.out)) : gb281 ≠ gb259)); clear HO_249001; clear HO_254001; clear HO_260001; clear HO275; clear HO279; clear BK237; clear BK248; clear BK253; clear BK259; clear HB; have HO_249001 := n0_; have HO_254001 := n1_; have HO_260001 := n2_; have HO275 := n3_; have HO279 := n4_; have BK237 := n5_; have BK248 := n6_; have BK253 := n7_; have BK259 := n8_; have HB := n9_; have BK281 := n10_; have GW281 := n11_; have GE281 := n12_; have NB237_281 := n13_; have NB281_237 := n14_; have NB248_281 := n15_; have NB281_248 := n16_; have NB253_281 := n17_; have NB281_253 := n18_; have NB259_281 := n19_; have NB281_259 := n20_; clear n0_ n1_ n2_ n3_ n4_ n5_ n6_ n7_ n8_ n9_ n10_ n11_ n12_ n13_ n14_ n15_ n16_ n17_ n18_ n19_ n20_; clear hb hbox hg; have hnb118 := NB281_237.out; have hnc118 := NB237_281.out; have hnb119 := NB281_248.out; have hnc119 := NB248_281.out; have hnb120 := NB281_253.out; have hnc120 := NB253_281.out; have hnb121 := NB281_259.out; have hnc121 := NB259_281.out; have hcz122_0 : w117.cell? ⟨gb281, 0, none⟩ = some (.int .i64 0) := (kQC BK281.out 0).trans rfl; have hcz122_1 : w117.cell? ⟨gb281, 1, none⟩ = some (.slice none 0 0) := (kQC BK281.out 1).trans rfl; have hfz122_0 := kQF BK281.out 0; have hfz122_1 := kQF BK281.out 1; obtain ⟨Ao123, co123, eo123⟩ := Kd.R_slice HO279.out; subst eo123))
           (try simp only [Act.put, qSa, qSb, qSc])
           go_cut [87] (fun v87 wc => ∃ (kq : Nat) (x87_102 : Bool), v87 = .bool x87_102 ∧ Aq (laws_FnExactKernelOf.j2 kq t269 x87_102 t254 t270 = some r) ∧ Aq (kq ≤ kj59) ∧ Aq (Kd.R (Kd.int .i64) 2 wc w.heap.size (fun k_ => some k_ ≠ ((.slice Ao29 t267.length co29) : Value).ownBlock ∧ some k_ ≠ ((.slice Ao36 t255.length co36) : Value).ownBlock ∧ some k_ ≠ ((.slice Ao123 t277.length co123) : Value).ownBlock) (.slice Ao22 t244.length co22) t244) ∧ Aq (Kd.R (Kd.int .i64) 2 wc w.heap.size (fun k_ => some k_ ≠ ((.slice Ao22 t244.length co22) : Value).ownBlock ∧ some k_ ≠ ((.slice Ao36 t255.length co36) : Value).ownBlock ∧ some k_ ≠ ((.slice Ao123 t277.length co123) : Value).ownBlock) (.slice Ao29 t267.length co29) t267) ∧ Aq (Kd.R (Kd.int .i64) 2 wc w.heap.size (fun k_ => some k_ ≠ ((.slice Ao22 t244.length co22) : Value).ownBlock ∧ some k_ ≠ ((.slice Ao29 t267.length co29) : Value).ownBlock ∧ some k_ ≠ ((.slice Ao123 t277.length co123) : Value).ownBlock) (.slice Ao36 t255.length co36) t270) ∧ Aq (Kd.R (Kd.int .i64) 2 wc w.heap.size (fun k_ => some k_ ≠ ((.slice Ao22 t244.length co22) : Value).ownBlock ∧ some k_ ≠ ((.slice Ao29 t267.length co29) : Value).ownBlock ∧ some k_ ≠ ((.slice Ao36 t255.length co36) : Value).ownBlock) (.slice Ao123 t277.length co123) t277) ∧ Aq (wc.heap[gb237]? = some (.cells #[.int .i64 a0_0, (.slice A0_1 l0_1.length c0_1)] 24 (0, 0))) ∧ Aq (wc.heap[gb248]? = some (.cells #[.int .i64 t243, (.slice Ao22 t244.length co22)] 26 (0, 0))) ∧ Aq (wc.heap[gb253]? = some (.cells #[.int .i64 t249, (.slice Ao29 t267.length co29)] 26 (0, 0))) ∧ Aq (wc.heap[gb259]? = some (.cells #[.int .i64 t254, (.slice Ao36 t255.length co36)] 26 (0, 0))) ∧ Aq (wc.heap[gb281]? = some (.cells #[.int .i64 t276, (.slice Ao123 t277.length co123)] 26 (0, 0))) ∧ Aq (Below w.heap.size w wc))
           case first =>
            have H := HC103.out
            clear HC103
            replace H := Option.bind_eq_some_iff.mp H
            obtain ⟨t282, A1240, H⟩ := H
            replace H : (if t282 = true then (laws_FnExactKernelOf.j2 kj59 t269 (t280 != t247) t254 t270) else (laws_FnExactKernelOf.j2 kj59 t269 true t254 t270)) = some r := H
            have A124 := Aq.mk A1240
            clear A1240
            by_cases c125 : t282 = true
            ·subst c125
             have H1 : (laws_FnExactKernelOf.j2 kj59 t269 (t280 != t247) t254 t270) = some r := by rw [if_pos rfl] at H; exact H
             clear H
             have H := H1
             clear H1
             have H' := Aq.mk H
             clear H
             have hnb126 := NB281_237.out
             have hnc126 := NB237_281.out
             have hnb127 := NB281_248.out
             have hnc127 := NB248_281.out
             have hnb128 := NB281_253.out
             have hnc128 := NB253_281.out
             have hnb129 := NB281_259.out
             have hnc129 := NB259_281.out
             have hcz130_0 : w117.cell? ⟨gb281, 0, none⟩ = some (.int .i64 0) := (kQC BK281.out 0).trans rfl
             have hcz130_1 : w117.cell? ⟨gb281, 1, none⟩ = some (.slice none 0 0) := (kQC BK281.out 1).trans rfl
             have hfz130_0 := kQF BK281.out 0
             have hfz130_1 := kQF BK281.out 1
             have hnb131 := NB248_237.out
             have hnc131 := NB237_248.out
             have hnb132 := NB248_253.out
             have hnc132 := NB253_248.out
             have hnb133 := NB248_259.out
             have hnc133 := NB259_248.out
             have hcz134_0 : w117.cell? ⟨gb248, 0, none⟩ = some (.int .i64 t243) := (kQC BK248.out 0).trans rfl
             have hcz134_1 : w117.cell? ⟨gb248, 1, none⟩ = some (.slice Ao22 t244.length co22) := (kQC BK248.out 1).trans rfl
             have hfz134_0 := kQF BK248.out 0
             have hfz134_1 := kQF BK248.out 1
             go_wp2_with (first | ((with_reducible refine gQc (f := 19) rfl ?_); refine goesL_ (some 81) rfl rfl Try.func19 (by kernel_rfl) rfl #[.agg #[.int .i64 t276, .slice Ao123 t277.length co123], .agg #[.int .i64 t243, .slice Ao22 t244.length co22]] rfl (by (try simp only [List.map_toArray, List.map_cons, List.map_nil]); first | done | rfl | (simp only [List.length_drop, List.length_take]; rfl)) ?_; (with_reducible refine (laws_eqMatrix.calls kj59 t276 _ _ t277 t243 _ _ t244 true _ ?side1 ?side2 ?side3 ?side4 A124.out).mono ?_); (case side1 => refine (Kd.R_reads' (e := 2) (base := w.heap.size) (ok := fun k_ => ((((True ∧ some k_ ≠ (.slice Ao22 t244.length co22 : Value).ownBlock) ∧ some k_ ≠ (.slice Ao29 t267.length co29 : Value).ownBlock) ∧ some k_ ≠ (.slice Ao36 t255.length co36 : Value).ownBlock) ∧ some k_ ≠ (.slice Ao115 t273.length co115 : Value).ownBlock)) (n := t277.length) (c := co123) ?_).2.2; exact (by (with_reducible repeat (first | apply Kd.RqA | apply Kd.RqN | apply Kd.RqD)); exact (Kd.R_mono (Kd.R_far (p := ⟨gb281, 1, none⟩) (Kd.R_far (p := ⟨gb281, 0, none⟩) (Kd.R_types HO279.out BK281.out (by decide)) (fun _ hk => hk.2) (.int .i64 t276)) (fun _ hk => hk.2) (.slice Ao123 t277.length co123)) (fun _ h_ => h_.1)))); (case side2 => exact (Kd.R_reads' HO279.out).2.1); (case side3 => refine (Kd.R_reads' (e := 2) (base := w.heap.size) (ok := fun k_ => (((some k_ ≠ (.slice Ao29 t267.length co29 : Value).ownBlock ∧ some k_ ≠ (.slice Ao36 t255.length co36 : Value).ownBlock) ∧ some k_ ≠ (.slice Ao115 t273.length co115 : Value).ownBlock) ∧ some k_ ≠ (.slice Ao123 t277.length co123 : Value).ownBlock)) (n := t244.length) (c := co22) ?_).2.2; exact (by (with_reducible repeat (first | apply Kd.RqA | apply Kd.RqN | apply Kd.RqD)); exact (Kd.R_mono (Kd.R_far (p := ⟨gb281, 1, none⟩) (Kd.R_far (p := ⟨gb281, 0, none⟩) (Kd.R_types HO_249001.out BK281.out (by decide)) (fun _ hk => hk.2) (.int .i64 t276)) (fun _ hk => hk.2) (.slice Ao123 t277.length co123)) (fun _ h_ => h_.1)))); (case side4 => exact (Kd.R_reads' HO_249001.out).2.1); rintro e w135 ⟨rfl, hb⟩; refine ⟨_, rfl, ?_⟩; have n0_ := Aq.mk (Kd.R_below (by (with_reducible repeat (first | apply Kd.RqA | apply Kd.RqN | apply Kd.RqD)); exact (Kd.R_mono (Kd.R_far (p := ⟨gb281, 1, none⟩) (Kd.R_far (p := ⟨gb281, 0, none⟩) (Kd.R_types HO_249001.out BK281.out (by decide)) (fun _ hk => hk.2) (.int .i64 t276)) (fun _ hk => hk.2) (.slice Ao123 t277.length co123)) (fun _ h_ => h_.1))) hb); have n1_ := Aq.mk (Kd.R_below (by (with_reducible repeat (first | apply Kd.RqA | apply Kd.RqN | apply Kd.RqD)); exact (Kd.R_mono (Kd.R_far (p := ⟨gb281, 1, none⟩) (Kd.R_far (p := ⟨gb281, 0, none⟩) (Kd.R_types HO_254001.out BK281.out (by decide)) (fun _ hk => hk.2) (.int .i64 t276)) (fun _ hk => hk.2) (.slice Ao123 t277.length co123)) (fun _ h_ => h_.1))) hb); have n2_ := Aq.mk (Kd.R_below (by (with_reducible repeat (first | apply Kd.RqA | apply Kd.RqN | apply Kd.RqD)); exact (Kd.R_mono (Kd.R_far (p := ⟨gb281, 1, none⟩) (Kd.R_far (p := ⟨gb281, 0, none⟩) (Kd.R_types HO_260001.out BK281.out (by decide)) (fun _ hk => hk.2) (.int .i64 t276)) (fun _ hk => hk.2) (.slice Ao123 t277.length co123)) (fun _ h_ => h_.1))) hb); have n3_ := Aq.mk (Kd.R_below (by (with_reducible repeat (first | apply Kd.RqA | apply Kd.RqN | apply Kd.RqD)); exact (Kd.R_mono (Kd.R_far (p := ⟨gb281, 1, none⟩) (Kd.R_far (p := ⟨gb281, 0, none⟩) (Kd.R_types HO275.out BK281.out (by decide)) (fun _ hk => hk.2) (.int .i64 t276)) (fun _ hk => hk.2) (.slice Ao123 t277.length co123)) (fun _ h_ => h_.1))) hb); have n4_ := Aq.mk (Kd.R_below (by (with_reducible repeat (first | apply Kd.RqA | apply Kd.RqN | apply Kd.RqD)); exact (Kd.R_mono (Kd.R_far (p := ⟨gb281, 1, none⟩) (Kd.R_far (p := ⟨gb281, 0, none⟩) (Kd.R_types HO279.out BK281.out (by decide)) (fun _ hk => hk.2) (.int .i64 t276)) (fun _ hk => hk.2) (.slice Ao123 t277.length co123)) (fun _ h_ => h_.1))) hb); have n5_ := Aq.mk (kQB (g := gb237) (o := .cells #[.int .i64 a0_0, .slice A0_1 l0_1.length c0_1] 24 (0, 0)) (by (with_reducible repeat (first | refine kQN ?_ _ | refine kQD ?_ | refine kQA ?_ _)); refine kQR ?_ NB237_281.out _; (with_reducible repeat (first | refine kQN ?_ _ | refine kQD ?_ | refine kQA ?_ _)); refine kQR ?_ NB237_281.out _; (with_reducible repeat (first | refine kQN ?_ _ | refine kQD ?_ | refine kQA ?_ _)); exact BK237.out) hb); have n6_ := Aq.mk (kQB (g := gb248) (o := .cells #[.int .i64 t243, .slice Ao22 t244.length co22] 26 (0, 0)) (by (with_reducible repeat (first | refine kQN ?_ _ | refine kQD ?_ | refine kQA ?_ _)); refine kQR ?_ NB248_281.out _; (with_reducible repeat (first | refine kQN ?_ _ | refine kQD ?_ | refine kQA ?_ _)); refine kQR ?_ NB248_281.out _; (with_reducible repeat (first | refine kQN ?_ _ | refine kQD ?_ | refine kQA ?_ _)); exact BK248.out) hb); have n7_ := Aq.mk (kQB (g := gb253) (o := .cells #[.int .i64 t249, .slice Ao29 t267.length co29] 26 (0, 0)) (by (with_reducible repeat (first | refine kQN ?_ _ | refine kQD ?_ | refine kQA ?_ _)); refine kQR ?_ NB253_281.out _; (with_reducible repeat (first | refine kQN ?_ _ | refine kQD ?_ | refine kQA ?_ _)); refine kQR ?_ NB253_281.out _; (with_reducible repeat (first | refine kQN ?_ _ | refine kQD ?_ | refine kQA ?_ _)); exact BK253.out) hb); have n8_ := Aq.mk (kQB (g := gb259) (o := .cells #[.int .i64 t254, .slice Ao36 t255.length co36] 26 (0, 0)) (by (with_reducible repeat (first | refine kQN ?_ _ | refine kQD ?_ | refine kQA ?_ _)); refine kQR ?_ NB259_281.out _; (with_reducible repeat (first | refine kQN ?_ _ | refine kQD ?_ | refine kQA ?_ _)); refine kQR ?_ NB259_281.out _; (with_reducible repeat (first | refine kQN ?_ _ | refine kQD ?_ | refine kQA ?_ _)); exact BK259.out) hb); have n9_ := Aq.mk (kQB (g := gb281) (o := .cells #[.int .i64 t276, .slice Ao123 t277.length co123] 26 (0, 0)) (by (with_reducible repeat (first | refine kQN ?_ _ | refine kQD ?_ | refine kQA ?_ _)); refine kQP (cs := #[.int .i64 t276, .slice none 0 0]) ?_ 1 _ rfl; (with_reducible repeat (first | refine kQN ?_ _ | refine kQD ?_ | refine kQA ?_ _)); refine kQP (cs := #[.int .i64 0, .slice none 0 0]) ?_ 0 _ rfl; (with_reducible repeat (first | refine kQN ?_ _ | refine kQD ?_ | refine kQA ?_ _)); exact BK281.out) hb); have n10_ := Aq.mk (bQT (by repeat (first | (with_reducible first | exact HB.out | apply bQA | apply bQN | apply bQ1 | refine bQS ?_ GE237.out | refine bQS ?_ GE248.out | refine bQS ?_ GE253.out | refine bQS ?_ GE259.out | refine bQS ?_ GE281.out) | exact HB.out)) hb); clear HO_249001; clear HO_254001; clear HO_260001; clear HO275; clear HO279; clear BK237; clear BK248; clear BK253; clear BK259; clear BK281; clear HB; have HO_249001 := n0_; have HO_254001 := n1_; have HO_260001 := n2_; have HO275 := n3_; have HO279 := n4_; have BK237 := n5_; have BK248 := n6_; have BK253 := n7_; have BK259 := n8_; have BK281 := n9_; have HB := n10_; clear n0_ n1_ n2_ n3_ n4_ n5_ n6_ n7_ n8_ n9_ n10_; (try clear hb); (try clear hb2); (try clear hk); (try clear hi)))
             go_meet
             case rel => exact ⟨_, ((t280 != t247)), (by first | rfl | (simp; done) | (simp [*]; done)), H', ⟨by have := HJ10.out; have := HJ59.out; first | omega | exact Nat.le_refl _⟩, ⟨by (try simp only [hl254001_59]); (with_reducible repeat (first | apply Kd.RqA | apply Kd.RqN | apply Kd.RqD)); exact Kd.R_mono HO_249001.out (fun _ hk => ⟨hk.1.1.1, ⟨hk.1.1.2, hk.2⟩⟩)⟩, ⟨by (try simp only [hl254001_59]); (with_reducible repeat (first | apply Kd.RqA | apply Kd.RqN | apply Kd.RqD)); exact Kd.R_mono HO_254001.out (fun _ hk => ⟨hk.1.1.1, ⟨hk.1.1.2, hk.2⟩⟩)⟩, ⟨by (try simp only [hl254001_59]); (with_reducible repeat (first | apply Kd.RqA | apply Kd.RqN | apply Kd.RqD)); exact Kd.R_mono HO_260001.out (fun _ hk => ⟨hk.1.1.1, ⟨hk.1.1.2, hk.2⟩⟩)⟩, ⟨by (try simp only [hl254001_59]); (with_reducible repeat (first | apply Kd.RqA | apply Kd.RqN | apply Kd.RqD)); exact Kd.R_mono HO279.out (fun _ hk => ⟨hk.1.1.1.2, ⟨hk.1.1.2, hk.1.2⟩⟩)⟩, ⟨by (try simp only [hl254001_59]); (with_reducible repeat (first | refine kQN ?_ _ | refine kQD ?_ | refine kQA ?_ _)); exact BK237.out⟩, ⟨by (try simp only [hl254001_59]); (with_reducible repeat (first | refine kQN ?_ _ | refine kQD ?_ | refine kQA ?_ _)); exact BK248.out⟩, ⟨by (try simp only [hl254001_59]); (with_reducible repeat (first | refine kQN ?_ _ | refine kQD ?_ | refine kQA ?_ _)); exact BK253.out⟩, ⟨by (try simp only [hl254001_59]); (with_reducible repeat (first | refine kQN ?_ _ | refine kQD ?_ | refine kQA ?_ _)); exact BK259.out⟩, ⟨by (try simp only [hl254001_59]); (with_reducible repeat (first | refine kQN ?_ _ | refine kQD ?_ | refine kQA ?_ _)); exact BK281.out⟩, ⟨by repeat (first | (with_reducible first | exact HB.out | apply bQA | apply bQN | apply bQ1 | refine bQS ?_ GE237.out | refine bQS ?_ GE248.out | refine bQS ?_ GE253.out | refine bQS ?_ GE259.out | refine bQS ?_ GE281.out) | exact HB.out)⟩⟩
            ·replace c125 := Bool.eq_false_iff.mpr c125
             subst c125
             have H1 : (laws_FnExactKernelOf.j2 kj59 t269 true t254 t270) = some r := by rw [if_neg (show ¬ (false = true) by decide)] at H; exact H
             clear H
             have H := H1
             clear H1
             have H' := Aq.mk H
             clear H
             have hnb136 := NB281_237.out
             have hnc136 := NB237_281.out
             have hnb137 := NB281_248.out
             have hnc137 := NB248_281.out
             have hnb138 := NB281_253.out
             have hnc138 := NB253_281.out
             have hnb139 := NB281_259.out
             have hnc139 := NB259_281.out
             have hcz140_0 : w117.cell? ⟨gb281, 0, none⟩ = some (.int .i64 0) := (kQC BK281.out 0).trans rfl
             have hcz140_1 : w117.cell? ⟨gb281, 1, none⟩ = some (.slice none 0 0) := (kQC BK281.out 1).trans rfl
             have hfz140_0 := kQF BK281.out 0
             have hfz140_1 := kQF BK281.out 1
             have hnb141 := NB248_237.out
             have hnc141 := NB237_248.out
             have hnb142 := NB248_253.out
             have hnc142 := NB253_248.out
             have hnb143 := NB248_259.out
             have hnc143 := NB259_248.out
             have hcz144_0 : w117.cell? ⟨gb248, 0, none⟩ = some (.int .i64 t243) := (kQC BK248.out 0).trans rfl
             have hcz144_1 : w117.cell? ⟨gb248, 1, none⟩ = some (.slice Ao22 t244.length co22) := (kQC BK248.out 1).trans rfl
             have hfz144_0 := kQF BK248.out 0
             have hfz144_1 := kQF BK248.out 1
             go_wp2_with (first | ((with_reducible refine gQc (f := 19) rfl ?_); refine goesL_ (some 81) rfl rfl Try.func19 (by kernel_rfl) rfl #[.agg #[.int .i64 t276, .slice Ao123 t277.length co123], .agg #[.int .i64 t243, .slice Ao22 t244.length co22]] rfl (by (try simp only [List.map_toArray, List.map_cons, List.map_nil]); first | done | rfl | (simp only [List.length_drop, List.length_take]; rfl)) ?_; (with_reducible refine (laws_eqMatrix.calls kj59 t276 _ _ t277 t243 _ _ t244 false _ ?side1 ?side2 ?side3 ?side4 A124.out).mono ?_); (case side1 => refine (Kd.R_reads' (e := 2) (base := w.heap.size) (ok := fun k_ => ((((True ∧ some k_ ≠ (.slice Ao22 t244.length co22 : Value).ownBlock) ∧ some k_ ≠ (.slice Ao29 t267.length co29 : Value).ownBlock) ∧ some k_ ≠ (.slice Ao36 t255.length co36 : Value).ownBlock) ∧ some k_ ≠ (.slice Ao115 t273.length co115 : Value).ownBlock)) (n := t277.length) (c := co123) ?_).2.2; exact (by (with_reducible repeat (first | apply Kd.RqA | apply Kd.RqN | apply Kd.RqD)); exact (Kd.R_mono (Kd.R_far (p := ⟨gb281, 1, none⟩) (Kd.R_far (p := ⟨gb281, 0, none⟩) (Kd.R_types HO279.out BK281.out (by decide)) (fun _ hk => hk.2) (.int .i64 t276)) (fun _ hk => hk.2) (.slice Ao123 t277.length co123)) (fun _ h_ => h_.1)))); (case side2 => exact (Kd.R_reads' HO279.out).2.1); (case side3 => refine (Kd.R_reads' (e := 2) (base := w.heap.size) (ok := fun k_ => (((some k_ ≠ (.slice Ao29 t267.length co29 : Value).ownBlock ∧ some k_ ≠ (.slice Ao36 t255.length co36 : Value).ownBlock) ∧ some k_ ≠ (.slice Ao115 t273.length co115 : Value).ownBlock) ∧ some k_ ≠ (.slice Ao123 t277.length co123 : Value).ownBlock)) (n := t244.length) (c := co22) ?_).2.2; exact (by (with_reducible repeat (first | apply Kd.RqA | apply Kd.RqN | apply Kd.RqD)); exact (Kd.R_mono (Kd.R_far (p := ⟨gb281, 1, none⟩) (Kd.R_far (p := ⟨gb281, 0, none⟩) (Kd.R_types HO_249001.out BK281.out (by decide)) (fun _ hk => hk.2) (.int .i64 t276)) (fun _ hk => hk.2) (.slice Ao123 t277.length co123)) (fun _ h_ => h_.1)))); (case side4 => exact (Kd.R_reads' HO_249001.out).2.1); rintro e w145 ⟨rfl, hb⟩; refine ⟨_, rfl, ?_⟩; have n0_ := Aq.mk (Kd.R_below (by (with_reducible repeat (first | apply Kd.RqA | apply Kd.RqN | apply Kd.RqD)); exact (Kd.R_mono (Kd.R_far (p := ⟨gb281, 1, none⟩) (Kd.R_far (p := ⟨gb281, 0, none⟩) (Kd.R_types HO_249001.out BK281.out (by decide)) (fun _ hk => hk.2) (.int .i64 t276)) (fun _ hk => hk.2) (.slice Ao123 t277.length co123)) (fun _ h_ => h_.1))) hb); have n1_ := Aq.mk (Kd.R_below (by (with_reducible repeat (first | apply Kd.RqA | apply Kd.RqN | apply Kd.RqD)); exact (Kd.R_mono (Kd.R_far (p := ⟨gb281, 1, none⟩) (Kd.R_far (p := ⟨gb281, 0, none⟩) (Kd.R_types HO_254001.out BK281.out (by decide)) (fun _ hk => hk.2) (.int .i64 t276)) (fun _ hk => hk.2) (.slice Ao123 t277.length co123)) (fun _ h_ => h_.1))) hb); have n2_ := Aq.mk (Kd.R_below (by (with_reducible repeat (first | apply Kd.RqA | apply Kd.RqN | apply Kd.RqD)); exact (Kd.R_mono (Kd.R_far (p := ⟨gb281, 1, none⟩) (Kd.R_far (p := ⟨gb281, 0, none⟩) (Kd.R_types HO_260001.out BK281.out (by decide)) (fun _ hk => hk.2) (.int .i64 t276)) (fun _ hk => hk.2) (.slice Ao123 t277.length co123)) (fun _ h_ => h_.1))) hb); have n3_ := Aq.mk (Kd.R_below (by (with_reducible repeat (first | apply Kd.RqA | apply Kd.RqN | apply Kd.RqD)); exact (Kd.R_mono (Kd.R_far (p := ⟨gb281, 1, none⟩) (Kd.R_far (p := ⟨gb281, 0, none⟩) (Kd.R_types HO275.out BK281.out (by decide)) (fun _ hk => hk.2) (.int .i64 t276)) (fun _ hk => hk.2) (.slice Ao123 t277.length co123)) (fun _ h_ => h_.1))) hb); have n4_ := Aq.mk (Kd.R_below (by (with_reducible repeat (first | apply Kd.RqA | apply Kd.RqN | apply Kd.RqD)); exact (Kd.R_mono (Kd.R_far (p := ⟨gb281, 1, none⟩) (Kd.R_far (p := ⟨gb281, 0, none⟩) (Kd.R_types HO279.out BK281.out (by decide)) (fun _ hk => hk.2) (.int .i64 t276)) (fun _ hk => hk.2) (.slice Ao123 t277.length co123)) (fun _ h_ => h_.1))) hb); have n5_ := Aq.mk (kQB (g := gb237) (o := .cells #[.int .i64 a0_0, .slice A0_1 l0_1.length c0_1] 24 (0, 0)) (by (with_reducible repeat (first | refine kQN ?_ _ | refine kQD ?_ | refine kQA ?_ _)); refine kQR ?_ NB237_281.out _; (with_reducible repeat (first | refine kQN ?_ _ | refine kQD ?_ | refine kQA ?_ _)); refine kQR ?_ NB237_281.out _; (with_reducible repeat (first | refine kQN ?_ _ | refine kQD ?_ | refine kQA ?_ _)); exact BK237.out) hb); have n6_ := Aq.mk (kQB (g := gb248) (o := .cells #[.int .i64 t243, .slice Ao22 t244.length co22] 26 (0, 0)) (by (with_reducible repeat (first | refine kQN ?_ _ | refine kQD ?_ | refine kQA ?_ _)); refine kQR ?_ NB248_281.out _; (with_reducible repeat (first | refine kQN ?_ _ | refine kQD ?_ | refine kQA ?_ _)); refine kQR ?_ NB248_281.out _; (with_reducible repeat (first | refine kQN ?_ _ | refine kQD ?_ | refine kQA ?_ _)); exact BK248.out) hb); have n7_ := Aq.mk (kQB (g := gb253) (o := .cells #[.int .i64 t249, .slice Ao29 t267.length co29] 26 (0, 0)) (by (with_reducible repeat (first | refine kQN ?_ _ | refine kQD ?_ | refine kQA ?_ _)); refine kQR ?_ NB253_281.out _; (with_reducible repeat (first | refine kQN ?_ _ | refine kQD ?_ | refine kQA ?_ _)); refine kQR ?_ NB253_281.out _; (with_reducible repeat (first | refine kQN ?_ _ | refine kQD ?_ | refine kQA ?_ _)); exact BK253.out) hb); have n8_ := Aq.mk (kQB (g := gb259) (o := .cells #[.int .i64 t254, .slice Ao36 t255.length co36] 26 (0, 0)) (by (with_reducible repeat (first | refine kQN ?_ _ | refine kQD ?_ | refine kQA ?_ _)); refine kQR ?_ NB259_281.out _; (with_reducible repeat (first | refine kQN ?_ _ | refine kQD ?_ | refine kQA ?_ _)); refine kQR ?_ NB259_281.out _; (with_reducible repeat (first | refine kQN ?_ _ | refine kQD ?_ | refine kQA ?_ _)); exact BK259.out) hb); have n9_ := Aq.mk (kQB (g := gb281) (o := .cells #[.int .i64 t276, .slice Ao123 t277.length co123] 26 (0, 0)) (by (with_reducible repeat (first | refine kQN ?_ _ | refine kQD ?_ | refine kQA ?_ _)); refine kQP (cs := #[.int .i64 t276, .slice none 0 0]) ?_ 1 _ rfl; (with_reducible repeat (first | refine kQN ?_ _ | refine kQD ?_ | refine kQA ?_ _)); refine kQP (cs := #[.int .i64 0, .slice none 0 0]) ?_ 0 _ rfl; (with_reducible repeat (first | refine kQN ?_ _ | refine kQD ?_ | refine kQA ?_ _)); exact BK281.out) hb); have n10_ := Aq.mk (bQT (by repeat (first | (with_reducible first | exact HB.out | apply bQA | apply bQN | apply bQ1 | refine bQS ?_ GE237.out | refine bQS ?_ GE248.out | refine bQS ?_ GE253.out | refine bQS ?_ GE259.out | refine bQS ?_ GE281.out) | exact HB.out)) hb); clear HO_249001; clear HO_254001; clear HO_260001; clear HO275; clear HO279; clear BK237; clear BK248; clear BK253; clear BK259; clear BK281; clear HB; have HO_249001 := n0_; have HO_254001 := n1_; have HO_260001 := n2_; have HO275 := n3_; have HO279 := n4_; have BK237 := n5_; have BK248 := n6_; have BK253 := n7_; have BK259 := n8_; have BK281 := n9_; have HB := n10_; clear n0_ n1_ n2_ n3_ n4_ n5_ n6_ n7_ n8_ n9_ n10_; (try clear hb); (try clear hb2); (try clear hk); (try clear hi)))
             go_meet
             case rel => exact ⟨_, (true), (by first | rfl | (simp; done) | (simp [*]; done)), H', ⟨by have := HJ10.out; have := HJ59.out; first | omega | exact Nat.le_refl _⟩, ⟨by (try simp only [hl254001_59]); (with_reducible repeat (first | apply Kd.RqA | apply Kd.RqN | apply Kd.RqD)); exact Kd.R_mono HO_249001.out (fun _ hk => ⟨hk.1.1.1, ⟨hk.1.1.2, hk.2⟩⟩)⟩, ⟨by (try simp only [hl254001_59]); (with_reducible repeat (first | apply Kd.RqA | apply Kd.RqN | apply Kd.RqD)); exact Kd.R_mono HO_254001.out (fun _ hk => ⟨hk.1.1.1, ⟨hk.1.1.2, hk.2⟩⟩)⟩, ⟨by (try simp only [hl254001_59]); (with_reducible repeat (first | apply Kd.RqA | apply Kd.RqN | apply Kd.RqD)); exact Kd.R_mono HO_260001.out (fun _ hk => ⟨hk.1.1.1, ⟨hk.1.1.2, hk.2⟩⟩)⟩, ⟨by (try simp only [hl254001_59]); (with_reducible repeat (first | apply Kd.RqA | apply Kd.RqN | apply Kd.RqD)); exact Kd.R_mono HO279.out (fun _ hk => ⟨hk.1.1.1.2, ⟨hk.1.1.2, hk.1.2⟩⟩)⟩, ⟨by (try simp only [hl254001_59]); (with_reducible repeat (first | refine kQN ?_ _ | refine kQD ?_ | refine kQA ?_ _)); exact BK237.out⟩, ⟨by (try simp only [hl254001_59]); (with_reducible repeat (first | refine kQN ?_ _ | refine kQD ?_ | refine kQA ?_ _)); exact BK248.out⟩, ⟨by (try simp only [hl254001_59]); (with_reducible repeat (first | refine kQN ?_ _ | refine kQD ?_ | refine kQA ?_ _)); exact BK253.out⟩, ⟨by (try simp only [hl254001_59]); (with_reducible repeat (first | refine kQN ?_ _ | refine kQD ?_ | refine kQA ?_ _)); exact BK259.out⟩, ⟨by (try simp only [hl254001_59]); (with_reducible repeat (first | refine kQN ?_ _ | refine kQD ?_ | refine kQA ?_ _)); exact BK281.out⟩, ⟨by repeat (first | (with_reducible first | exact HB.out | apply bQA | apply bQN | apply bQ1 | refine bQS ?_ GE237.out | refine bQS ?_ GE248.out | refine bQS ?_ GE253.out | refine bQS ?_ GE259.out | refine bQS ?_ GE281.out) | exact HB.out)⟩⟩
           case rest =>
            clear HC103
            try clear c1
            try clear c2
            try clear p2
            try clear c3
            try clear c3b0
            try clear c4
            try clear c5
            try clear c6
            try clear c7
            try clear c8
            try clear c9
            try clear c10
            try clear c11
            try clear c12
            try clear c13
            try clear c14
            try clear c15
            try clear c16
            try clear c17
            try clear c18
            try clear c19
            try clear c20
            try clear c21
            try clear c26
            try clear c27
            try clear c32
            try clear c33
            try clear c34
            try clear c38
            try clear c39
            try clear c40
            try clear c41
            try clear c43
            try clear c44
            try clear c47
            try clear c48
            try clear c49
            try clear c51
            try clear c52
            try clear c55
            try clear c58
            try clear c65
            try clear c66
            try clear c67
            try clear c70
            try clear c70b0
            try clear c72
            try clear c73
            try clear c74
            try clear c75
            try clear c77
            try clear c78
            try clear c81
            try clear c82
            try clear c83
            try clear c85
            try clear c86
            try clear c89
            try clear c92
            try clear c92b0
            try clear c93
            try clear c94
            try clear c95
            try clear c100
            try clear c100b0
            try clear c100b1
            try clear c104
            try clear c105
            try clear c106
            try clear c111
            try clear c112
            try clear c118
            try clear c119
            try clear c120
            try clear c121
            try clear c125
            try clear c126
            try clear c127
            try clear c128
            try clear c129
            try clear c131
            try clear c132
            try clear c133
            try clear c136
            try clear c137
            try clear c138
            try clear c139
            try clear c141
            try clear c142
            try clear c143
            try clear hcz107_0
            try clear hcz107_1
            try clear hcz109_0
            try clear hcz109_1
            try clear hcz113_0
            try clear hcz113_1
            try clear hcz122_0
            try clear hcz122_1
            try clear hcz130_0
            try clear hcz130_1
            try clear hcz134_0
            try clear hcz134_1
            try clear hcz13_0
            try clear hcz13_1
            try clear hcz140_0
            try clear hcz140_1
            try clear hcz144_0
            try clear hcz144_1
            try clear hcz15_0
            try clear hcz15_1
            try clear hcz21_0
            try clear hcz21_1
            try clear hcz23_0
            try clear hcz23_1
            try clear hcz28_0
            try clear hcz28_1
            try clear hcz35_0
            try clear hcz35_1
            try clear hcz42_0
            try clear hcz42_1
            try clear hcz45_0
            try clear hcz45_1
            try clear hcz50_0
            try clear hcz50_1
            try clear hcz53_0
            try clear hcz53_1
            try clear hcz5_0
            try clear hcz5_1
            try clear hcz68_0
            try clear hcz68_1
            try clear hcz76_0
            try clear hcz76_1
            try clear hcz79_0
            try clear hcz79_1
            try clear hcz84_0
            try clear hcz84_1
            try clear hcz87_0
            try clear hcz87_1
            try clear hcz96_0
            try clear hcz96_1
            try clear hcz98_0
            try clear hcz98_1
            try clear hfz107_0
            try clear hfz107_1
            try clear hfz109_0
            try clear hfz109_1
            try clear hfz113_0
            try clear hfz113_1
            try clear hfz122_0
            try clear hfz122_1
            try clear hfz130_0
            try clear hfz130_1
            try clear hfz134_0
            try clear hfz134_1
            try clear hfz13_0
            try clear hfz13_1
            try clear hfz140_0
            try clear hfz140_1
            try clear hfz144_0
            try clear hfz144_1
            try clear hfz15_0
            try clear hfz15_1
            try clear hfz21_0
            try clear hfz21_1
            try clear hfz23_0
            try clear hfz23_1
            try clear hfz28_0
            try clear hfz28_1
            try clear hfz35_0
            try clear hfz35_1
            try clear hfz42_0
            try clear hfz42_1
            try clear hfz45_0
            try clear hfz45_1
            try clear hfz50_0
            try clear hfz50_1
            try clear hfz53_0
            try clear hfz53_1
            try clear hfz5_0
            try clear hfz5_1
            try clear hfz68_0
            try clear hfz68_1
            try clear hfz76_0
            try clear hfz76_1
            try clear hfz79_0
            try clear hfz79_1
            try clear hfz84_0
            try clear hfz84_1
            try clear hfz87_0
            try clear hfz87_1
            try clear hfz96_0
            try clear hfz96_1
            try clear hfz98_0
            try clear hfz98_1
            try clear p2
            obtain ⟨kq, x87_102, rfl, HA, HJ102, HO_249001, HO_254001, HO_260001, HO_282001, BK237, BK248, BK253, BK259, BK281, HB⟩ := hcut
            have hl260001_102 := (Kd.R_reads' HO_260001.out).1
            rw [hl260001_102] at HO_260001
            (try simp only [hl260001_102])
            (try simp only [hl260001_102] at BK237)
            (try simp only [hl260001_102] at BK248)
            (try simp only [hl260001_102] at BK253)
            (try simp only [hl260001_102] at BK259)
            (try simp only [hl260001_102] at BK281)
            (try simp only [hl260001_102] at HO_249001)
            (try simp only [hl260001_102] at HO_254001)
            (try simp only [hl260001_102] at HO_282001)
            cases kq with
            | zero => exact absurd HA.out (by simp [laws_FnExactKernelOf.j2])
            | succ kj102 =>
             have H := HA.out
             clear HA
             simp only [laws_FnExactKernelOf.j2] at H
             by_cases c146 : x87_102 = true
             ·subst c146
              have H1 : (some false) = some r := by rw [if_pos rfl] at H; exact H
              clear H
              have H := H1
              clear H1
              obtain rfl := Option.some.inj H
              go_wp2
              go_ret
              exact ⟨by first | rfl | (simp [errW_none, errW_some] <;> rfl) | (simp [*, errW_none, errW_some] <;> rfl), by repeat (first | (with_reducible first | exact HB.out | apply bQA | apply bQN | apply bQ1 | refine bQS ?_ GE237.out | refine bQS ?_ GE248.out | refine bQS ?_ GE253.out | refine bQS ?_ GE259.out | refine bQS ?_ GE281.out) | exact HB.out)⟩
             ·replace c146 := Bool.eq_false_iff.mpr c146
              subst c146
              have H1 : ((laws_heldMatrix.f kj102 t254 t270 1).bind fun t283 => (if t283 < 0 then (some false) else (if t283 = t269 then (some true) else (some false)))) = some r := by rw [if_neg (show ¬ (false = true) by decide)] at H; exact H
              clear H
              have H := H1
              clear H1
              replace H := Option.bind_eq_some_iff.mp H
              obtain ⟨t283, A1470, H⟩ := H
              replace H : (if t283 < 0 then (some false) else (if t283 = t269 then (some true) else (some false))) = some r := H
              have A147 := Aq.mk A1470
              clear A1470
              by_cases c148 : t283 < 0
              ·rw [if_pos c148] at H
               have c148b0 : decide (t283 < 0) = true := decide_eq_true c148
               clear c148
               (try (have c148b0z := c148b0; simp only [hl254001_59, hl260001_102] at c148b0z))
               obtain rfl := Option.some.inj H
               have hnb149 := NB259_237.out
               have hnc149 := NB237_259.out
               have hnb150 := NB259_248.out
               have hnc150 := NB248_259.out
               have hnb151 := NB259_253.out
               have hnc151 := NB253_259.out
               have hnb152 := NB259_281.out
               have hnc152 := NB281_259.out
               have hcz153_0 : wc.cell? ⟨gb259, 0, none⟩ = some (.int .i64 t254) := (kQC BK259.out 0).trans rfl
               have hcz153_1 : wc.cell? ⟨gb259, 1, none⟩ = some (.slice Ao36 t270.length co36) := (kQC BK259.out 1).trans rfl
               have hfz153_0 := kQF BK259.out 0
               have hfz153_1 := kQF BK259.out 1
               go_wp2_with (first | ((with_reducible refine gQc (f := 21) rfl ?_); refine goesL_ (some 90) rfl rfl Try.func21 (by kernel_rfl) rfl #[.agg #[.int .i64 t254, .slice Ao36 t270.length co36], .int .i64 1] rfl (by (try simp only [List.map_toArray, List.map_cons, List.map_nil]); first | done | rfl | (simp only [List.length_drop, List.length_take]; rfl)) ?_; (with_reducible refine (laws_heldMatrix.calls kj102 t254 _ _ t270 1 t283 _ ?side1 ?side2 A147.out).mono ?_); (case side1 => repeat (first | exact (Kd.R_reads' HO_260001.out).2.2 | (with_reducible refine Kd.CqA ?_ _) | (with_reducible refine Kd.CqN ?_ _) | (with_reducible refine Kd.CqD ?_))); (case side2 => exact (Kd.R_reads' HO_260001.out).2.1); rintro e w154 ⟨rfl, hb⟩; refine ⟨_, rfl, ?_⟩; have n0_ := Aq.mk (Kd.R_below (by (with_reducible repeat (first | apply Kd.RqA | apply Kd.RqN | apply Kd.RqD)); exact HO_249001.out) hb); have n1_ := Aq.mk (Kd.R_below (by (with_reducible repeat (first | apply Kd.RqA | apply Kd.RqN | apply Kd.RqD)); exact HO_254001.out) hb); have n2_ := Aq.mk (Kd.R_below (by (with_reducible repeat (first | apply Kd.RqA | apply Kd.RqN | apply Kd.RqD)); exact HO_260001.out) hb); have n3_ := Aq.mk (Kd.R_below (by (with_reducible repeat (first | apply Kd.RqA | apply Kd.RqN | apply Kd.RqD)); exact HO_282001.out) hb); have n4_ := Aq.mk (kQB (g := gb237) (o := .cells #[.int .i64 a0_0, .slice A0_1 l0_1.length c0_1] 24 (0, 0)) (by (with_reducible repeat (first | refine kQN ?_ _ | refine kQD ?_ | refine kQA ?_ _)); exact BK237.out) hb); have n5_ := Aq.mk (kQB (g := gb248) (o := .cells #[.int .i64 t243, .slice Ao22 t244.length co22] 26 (0, 0)) (by (with_reducible repeat (first | refine kQN ?_ _ | refine kQD ?_ | refine kQA ?_ _)); exact BK248.out) hb); have n6_ := Aq.mk (kQB (g := gb253) (o := .cells #[.int .i64 t249, .slice Ao29 t267.length co29] 26 (0, 0)) (by (with_reducible repeat (first | refine kQN ?_ _ | refine kQD ?_ | refine kQA ?_ _)); exact BK253.out) hb); have n7_ := Aq.mk (kQB (g := gb259) (o := .cells #[.int .i64 t254, .slice Ao36 t270.length co36] 26 (0, 0)) (by (with_reducible repeat (first | refine kQN ?_ _ | refine kQD ?_ | refine kQA ?_ _)); exact BK259.out) hb); have n8_ := Aq.mk (kQB (g := gb281) (o := .cells #[.int .i64 t276, .slice Ao123 t277.length co123] 26 (0, 0)) (by (with_reducible repeat (first | refine kQN ?_ _ | refine kQD ?_ | refine kQA ?_ _)); exact BK281.out) hb); have n9_ := Aq.mk (bQT (by repeat (first | (with_reducible first | exact HB.out | apply bQA | apply bQN | apply bQ1 | refine bQS ?_ GE237.out | refine bQS ?_ GE248.out | refine bQS ?_ GE253.out | refine bQS ?_ GE259.out | refine bQS ?_ GE281.out) | exact HB.out)) hb); clear HO_249001; clear HO_254001; clear HO_260001; clear HO_282001; clear BK237; clear BK248; clear BK253; clear BK259; clear BK281; clear HB; have HO_249001 := n0_; have HO_254001 := n1_; have HO_260001 := n2_; have HO_282001 := n3_; have BK237 := n4_; have BK248 := n5_; have BK253 := n6_; have BK259 := n7_; have BK281 := n8_; have HB := n9_; clear n0_ n1_ n2_ n3_ n4_ n5_ n6_ n7_ n8_ n9_; (try clear hb); (try clear hb2); (try clear hk); (try clear hi)))
               go_ret
               exact ⟨by first | rfl | (simp [errW_none, errW_some] <;> rfl) | (simp [*, errW_none, errW_some] <;> rfl), by repeat (first | (with_reducible first | exact HB.out | apply bQA | apply bQN | apply bQ1 | refine bQS ?_ GE237.out | refine bQS ?_ GE248.out | refine bQS ?_ GE253.out | refine bQS ?_ GE259.out | refine bQS ?_ GE281.out) | exact HB.out)⟩
              ·rw [if_neg c148] at H
               have c148b0 : decide (t283 < 0) = false := decide_eq_false c148
               clear c148
               (try (have c148b0z := c148b0; simp only [hl254001_59, hl260001_102] at c148b0z))
               by_cases c155 : t283 = t269
               ·rw [if_pos c155] at H
                have c155b0 : (t283 == t269) = true := beq_iff_eq.mpr c155
                have c155b1 : (t283 != t269) = false := bne_eq_false_iff_eq.mpr c155
                clear c155
                (try (have c155b0z := c155b0; simp only [hl254001_59, hl260001_102] at c155b0z))
                (try (have c155b1z := c155b1; simp only [hl254001_59, hl260001_102] at c155b1z))
                obtain rfl := Option.some.inj H
                have hnb156 := NB259_237.out
                have hnc156 := NB237_259.out
                have hnb157 := NB259_248.out
                have hnc157 := NB248_259.out
                have hnb158 := NB259_253.out
                have hnc158 := NB253_259.out
                have hnb159 := NB259_281.out
                have hnc159 := NB281_259.out
                have hcz160_0 : wc.cell? ⟨gb259, 0, none⟩ = some (.int .i64 t254) := (kQC BK259.out 0).trans rfl
                have hcz160_1 : wc.cell? ⟨gb259, 1, none⟩ = some (.slice Ao36 t270.length co36) := (kQC BK259.out 1).trans rfl
                have hfz160_0 := kQF BK259.out 0
                have hfz160_1 := kQF BK259.out 1
                go_wp2_with (first | ((with_reducible refine gQc (f := 21) rfl ?_); refine goesL_ (some 90) rfl rfl Try.func21 (by kernel_rfl) rfl #[.agg #[.int .i64 t254, .slice Ao36 t270.length co36], .int .i64 1] rfl (by (try simp only [List.map_toArray, List.map_cons, List.map_nil]); first | done | rfl | (simp only [List.length_drop, List.length_take]; rfl)) ?_; (with_reducible refine (laws_heldMatrix.calls kj102 t254 _ _ t270 1 t283 _ ?side1 ?side2 A147.out).mono ?_); (case side1 => repeat (first | exact (Kd.R_reads' HO_260001.out).2.2 | (with_reducible refine Kd.CqA ?_ _) | (with_reducible refine Kd.CqN ?_ _) | (with_reducible refine Kd.CqD ?_))); (case side2 => exact (Kd.R_reads' HO_260001.out).2.1); rintro e w161 ⟨rfl, hb⟩; refine ⟨_, rfl, ?_⟩; have n0_ := Aq.mk (Kd.R_below (by (with_reducible repeat (first | apply Kd.RqA | apply Kd.RqN | apply Kd.RqD)); exact HO_249001.out) hb); have n1_ := Aq.mk (Kd.R_below (by (with_reducible repeat (first | apply Kd.RqA | apply Kd.RqN | apply Kd.RqD)); exact HO_254001.out) hb); have n2_ := Aq.mk (Kd.R_below (by (with_reducible repeat (first | apply Kd.RqA | apply Kd.RqN | apply Kd.RqD)); exact HO_260001.out) hb); have n3_ := Aq.mk (Kd.R_below (by (with_reducible repeat (first | apply Kd.RqA | apply Kd.RqN | apply Kd.RqD)); exact HO_282001.out) hb); have n4_ := Aq.mk (kQB (g := gb237) (o := .cells #[.int .i64 a0_0, .slice A0_1 l0_1.length c0_1] 24 (0, 0)) (by (with_reducible repeat (first | refine kQN ?_ _ | refine kQD ?_ | refine kQA ?_ _)); exact BK237.out) hb); have n5_ := Aq.mk (kQB (g := gb248) (o := .cells #[.int .i64 t243, .slice Ao22 t244.length co22] 26 (0, 0)) (by (with_reducible repeat (first | refine kQN ?_ _ | refine kQD ?_ | refine kQA ?_ _)); exact BK248.out) hb); have n6_ := Aq.mk (kQB (g := gb253) (o := .cells #[.int .i64 t249, .slice Ao29 t267.length co29] 26 (0, 0)) (by (with_reducible repeat (first | refine kQN ?_ _ | refine kQD ?_ | refine kQA ?_ _)); exact BK253.out) hb); have n7_ := Aq.mk (kQB (g := gb259) (o := .cells #[.int .i64 t254, .slice Ao36 t270.length co36] 26 (0, 0)) (by (with_reducible repeat (first | refine kQN ?_ _ | refine kQD ?_ | refine kQA ?_ _)); exact BK259.out) hb); have n8_ := Aq.mk (kQB (g := gb281) (o := .cells #[.int .i64 t276, .slice Ao123 t277.length co123] 26 (0, 0)) (by (with_reducible repeat (first | refine kQN ?_ _ | refine kQD ?_ | refine kQA ?_ _)); exact BK281.out) hb); have n9_ := Aq.mk (bQT (by repeat (first | (with_reducible first | exact HB.out | apply bQA | apply bQN | apply bQ1 | refine bQS ?_ GE237.out | refine bQS ?_ GE248.out | refine bQS ?_ GE253.out | refine bQS ?_ GE259.out | refine bQS ?_ GE281.out) | exact HB.out)) hb); clear HO_249001; clear HO_254001; clear HO_260001; clear HO_282001; clear BK237; clear BK248; clear BK253; clear BK259; clear BK281; clear HB; have HO_249001 := n0_; have HO_254001 := n1_; have HO_260001 := n2_; have HO_282001 := n3_; have BK237 := n4_; have BK248 := n5_; have BK253 := n6_; have BK259 := n7_; have BK281 := n8_; have HB := n9_; clear n0_ n1_ n2_ n3_ n4_ n5_ n6_ n7_ n8_ n9_; (try clear hb); (try clear hb2); (try clear hk); (try clear hi)))
                go_ret
                exact ⟨by first | rfl | (simp [errW_none, errW_some] <;> rfl) | (simp [*, errW_none, errW_some] <;> rfl), by repeat (first | (with_reducible first | exact HB.out | apply bQA | apply bQN | apply bQ1 | refine bQS ?_ GE237.out | refine bQS ?_ GE248.out | refine bQS ?_ GE253.out | refine bQS ?_ GE259.out | refine bQS ?_ GE281.out) | exact HB.out)⟩
               ·rw [if_neg c155] at H
                have c155b0 : (t283 == t269) = false := beq_eq_false_iff_ne.mpr c155
                have c155b1 : (t283 != t269) = true := bne_iff_ne.mpr c155
                (try (have c155b0z := c155b0; simp only [hl254001_59, hl260001_102] at c155b0z))
                (try (have c155b1z := c155b1; simp only [hl254001_59, hl260001_102] at c155b1z))
                obtain rfl := Option.some.inj H
                have hnb162 := NB259_237.out
                have hnc162 := NB237_259.out
                have hnb163 := NB259_248.out
                have hnc163 := NB248_259.out
                have hnb164 := NB259_253.out
                have hnc164 := NB253_259.out
                have hnb165 := NB259_281.out
                have hnc165 := NB281_259.out
                have hcz166_0 : wc.cell? ⟨gb259, 0, none⟩ = some (.int .i64 t254) := (kQC BK259.out 0).trans rfl
                have hcz166_1 : wc.cell? ⟨gb259, 1, none⟩ = some (.slice Ao36 t270.length co36) := (kQC BK259.out 1).trans rfl
                have hfz166_0 := kQF BK259.out 0
                have hfz166_1 := kQF BK259.out 1
                go_wp2_with (first | ((with_reducible refine gQc (f := 21) rfl ?_); refine goesL_ (some 90) rfl rfl Try.func21 (by kernel_rfl) rfl #[.agg #[.int .i64 t254, .slice Ao36 t270.length co36], .int .i64 1] rfl (by (try simp only [List.map_toArray, List.map_cons, List.map_nil]); first | done | rfl | (simp only [List.length_drop, List.length_take]; rfl)) ?_; (with_reducible refine (laws_heldMatrix.calls kj102 t254 _ _ t270 1 t283 _ ?side1 ?side2 A147.out).mono ?_); (case side1 => repeat (first | exact (Kd.R_reads' HO_260001.out).2.2 | (with_reducible refine Kd.CqA ?_ _) | (with_reducible refine Kd.CqN ?_ _) | (with_reducible refine Kd.CqD ?_))); (case side2 => exact (Kd.R_reads' HO_260001.out).2.1); rintro e w167 ⟨rfl, hb⟩; refine ⟨_, rfl, ?_⟩; have n0_ := Aq.mk (Kd.R_below (by (with_reducible repeat (first | apply Kd.RqA | apply Kd.RqN | apply Kd.RqD)); exact HO_249001.out) hb); have n1_ := Aq.mk (Kd.R_below (by (with_reducible repeat (first | apply Kd.RqA | apply Kd.RqN | apply Kd.RqD)); exact HO_254001.out) hb); have n2_ := Aq.mk (Kd.R_below (by (with_reducible repeat (first | apply Kd.RqA | apply Kd.RqN | apply Kd.RqD)); exact HO_260001.out) hb); have n3_ := Aq.mk (Kd.R_below (by (with_reducible repeat (first | apply Kd.RqA | apply Kd.RqN | apply Kd.RqD)); exact HO_282001.out) hb); have n4_ := Aq.mk (kQB (g := gb237) (o := .cells #[.int .i64 a0_0, .slice A0_1 l0_1.length c0_1] 24 (0, 0)) (by (with_reducible repeat (first | refine kQN ?_ _ | refine kQD ?_ | refine kQA ?_ _)); exact BK237.out) hb); have n5_ := Aq.mk (kQB (g := gb248) (o := .cells #[.int .i64 t243, .slice Ao22 t244.length co22] 26 (0, 0)) (by (with_reducible repeat (first | refine kQN ?_ _ | refine kQD ?_ | refine kQA ?_ _)); exact BK248.out) hb); have n6_ := Aq.mk (kQB (g := gb253) (o := .cells #[.int .i64 t249, .slice Ao29 t267.length co29] 26 (0, 0)) (by (with_reducible repeat (first | refine kQN ?_ _ | refine kQD ?_ | refine kQA ?_ _)); exact BK253.out) hb); have n7_ := Aq.mk (kQB (g := gb259) (o := .cells #[.int .i64 t254, .slice Ao36 t270.length co36] 26 (0, 0)) (by (with_reducible repeat (first | refine kQN ?_ _ | refine kQD ?_ | refine kQA ?_ _)); exact BK259.out) hb); have n8_ := Aq.mk (kQB (g := gb281) (o := .cells #[.int .i64 t276, .slice Ao123 t277.length co123] 26 (0, 0)) (by (with_reducible repeat (first | refine kQN ?_ _ | refine kQD ?_ | refine kQA ?_ _)); exact BK281.out) hb); have n9_ := Aq.mk (bQT (by repeat (first | (with_reducible first | exact HB.out | apply bQA | apply bQN | apply bQ1 | refine bQS ?_ GE237.out | refine bQS ?_ GE248.out | refine bQS ?_ GE253.out | refine bQS ?_ GE259.out | refine bQS ?_ GE281.out) | exact HB.out)) hb); clear HO_249001; clear HO_254001; clear HO_260001; clear HO_282001; clear BK237; clear BK248; clear BK253; clear BK259; clear BK281; clear HB; have HO_249001 := n0_; have HO_254001 := n1_; have HO_260001 := n2_; have HO_282001 := n3_; have BK237 := n4_; have BK248 := n5_; have BK253 := n6_; have BK259 := n7_; have BK281 := n8_; have HB := n9_; clear n0_ n1_ n2_ n3_ n4_ n5_ n6_ n7_ n8_ n9_; (try clear hb); (try clear hb2); (try clear hk); (try clear hi)))
                go_ret
                exact ⟨by first | rfl | (simp [errW_none, errW_some] <;> rfl) | (simp [*, errW_none, errW_some] <;> rfl), by repeat (first | (with_reducible first | exact HB.out | apply bQA | apply bQN | apply bQ1 | refine bQS ?_ GE237.out | refine bQS ?_ GE248.out | refine bQS ?_ GE253.out | refine bQS ?_ GE259.out | refine bQS ?_ GE281.out) | exact HB.out)⟩
          ·rw [if_neg c100] at H
           have c100b0 : (t271 == t269) = false := beq_eq_false_iff_ne.mpr c100
           have c100b1 : (t271 != t269) = true := bne_iff_ne.mpr c100
           (try (have c100b0z := c100b0; simp only [hl254001_59] at c100b0z))
           (try (have c100b1z := c100b1; simp only [hl254001_59] at c100b1z))
           obtain rfl := Option.some.inj H
           have hnb168 := NB259_237.out
           have hnc168 := NB237_259.out
           have hnb169 := NB259_248.out
           have hnc169 := NB248_259.out
           have hnb170 := NB259_253.out
           have hnc170 := NB253_259.out
           have hcz171_0 : wc.cell? ⟨gb259, 0, none⟩ = some (.int .i64 t254) := (kQC BK259.out 0).trans rfl
           have hcz171_1 : wc.cell? ⟨gb259, 1, none⟩ = some (.slice Ao36 t255.length co36) := (kQC BK259.out 1).trans rfl
           have hfz171_0 := kQF BK259.out 0
           have hfz171_1 := kQF BK259.out 1
           go_wp2_with (first | ((with_reducible refine gQc (f := 20) rfl ?_); refine goesL_ (some 64) rfl rfl Try.func20 (by kernel_rfl) rfl #[.agg #[.int .i64 t254, .slice Ao36 t255.length co36], .int .i64 1] rfl (by (try simp only [List.map_toArray, List.map_cons, List.map_nil]); first | done | rfl | (simp only [List.length_drop, List.length_take]; rfl)) ?_; (with_reducible refine (laws_markMatrix.calls kj59 t254 (fun k_ => some k_ = (.slice Ao36 t255.length co36 : Value).ownBlock) (.slice Ao36 t255.length co36) t255 1 t269 t270 w _ ?side1 ?side2 A90.out).mono ?_); (case side1 => repeat (first | (with_reducible first | exact HB.out | apply bQA | apply bQN | apply bQ1 | refine bQS ?_ GE237.out | refine bQS ?_ GE248.out | refine bQS ?_ GE253.out | refine bQS ?_ GE259.out) | exact HB.out)); (case side2 => exact Kd.R_tight rfl HO_260001.out); rintro e w172 ⟨rfl, hy0, hb, hkp⟩; refine ⟨_, rfl, ?_⟩; have n0_ := Aq.mk (Kd.R_mono (ok' := fun k_ => some k_ ≠ (.slice Ao29 t267.length co29 : Value).ownBlock ∧ some k_ ≠ (.slice Ao36 t255.length co36 : Value).ownBlock) (Kd.R_keptB (HO_249001.out) hkp (fun k_ hk_ hs_ => (hk_.2) hs_)) (fun k_ hk_ => ⟨hk_.1.1, hk_.1.2⟩)); have n1_ := Aq.mk (Kd.R_mono (ok' := fun k_ => some k_ ≠ (.slice Ao22 t244.length co22 : Value).ownBlock ∧ some k_ ≠ (.slice Ao36 t255.length co36 : Value).ownBlock) (Kd.R_keptB (HO_254001.out) hkp (fun k_ hk_ hs_ => (hk_.2) hs_)) (fun k_ hk_ => ⟨hk_.1.1, hk_.1.2⟩)); have n2_ := Aq.mk (Kd.R_reok rfl hy0 (fun k_ e_ => HO_260001.out.1 k_ e_)); have n3_ := Aq.mk (blk_kept (by (with_reducible repeat (first | refine kQN ?_ _ | refine kQD ?_ | refine kQA ?_ _)); exact BK237.out) hkp (fun hs_ => (fun e_ => (Kd.R_ne HO_260001.out BK237.out (by decide)) e_) hs_)); have n4_ := Aq.mk (blk_kept (by (with_reducible repeat (first | refine kQN ?_ _ | refine kQD ?_ | refine kQA ?_ _)); exact BK248.out) hkp (fun hs_ => (fun e_ => (Kd.R_ne HO_260001.out BK248.out (by decide)) e_) hs_)); have n5_ := Aq.mk (blk_kept (by (with_reducible repeat (first | refine kQN ?_ _ | refine kQD ?_ | refine kQA ?_ _)); exact BK253.out) hkp (fun hs_ => (fun e_ => (Kd.R_ne HO_260001.out BK253.out (by decide)) e_) hs_)); have n6_ := Aq.mk (blk_kept (by (with_reducible repeat (first | refine kQN ?_ _ | refine kQD ?_ | refine kQA ?_ _)); exact BK259.out) hkp (fun hs_ => (fun e_ => (Kd.R_ne HO_260001.out BK259.out (by decide)) e_) hs_)); have n7_ := Aq.mk (hb); clear HO_249001; clear HO_254001; clear HO_260001; clear BK237; clear BK248; clear BK253; clear BK259; clear HB; have HO_249001 := n0_; have HO_254001 := n1_; have HO_260001 := n2_; have BK237 := n3_; have BK248 := n4_; have BK253 := n5_; have BK259 := n6_; have HB := n7_; clear n0_ n1_ n2_ n3_ n4_ n5_ n6_ n7_; (try clear hb); (try clear hkp); (try clear hy0); have hcz173_0 : w172.cell? ⟨gb259, 0, none⟩ = some (.int .i64 t254) := (kQC BK259.out 0).trans rfl; have hcz173_1 : w172.cell? ⟨gb259, 1, none⟩ = some (.slice Ao36 t255.length co36) := (kQC BK259.out 1).trans rfl; have hfz173_0 := kQF BK259.out 0; have hfz173_1 := kQF BK259.out 1) | ((with_reducible refine gQc (f := 21) rfl ?_); refine goesL_ (some 67) rfl rfl Try.func21 (by kernel_rfl) rfl #[.agg #[.int .i64 t254, .slice Ao36 t270.length co36], .int .i64 1] rfl (by (try simp only [List.map_toArray, List.map_cons, List.map_nil]); first | done | (rw [show t270.length = t255.length from (Kd.R_reads' HO_260001.out).1.symm] <;> rfl) | rfl | (simp only [List.length_drop, List.length_take]; rfl)) ?_; (with_reducible refine (laws_heldMatrix.calls kj59 t254 _ _ t270 1 t271 _ ?side1 ?side2 A91.out).mono ?_); (case side1 => repeat (first | exact (Kd.R_reads' HO_260001.out).2.2 | (with_reducible refine Kd.CqA ?_ _) | (with_reducible refine Kd.CqN ?_ _) | (with_reducible refine Kd.CqD ?_))); (case side2 => rw [show t270.length = t255.length from (Kd.R_reads' HO_260001.out).1.symm]; exact (Kd.R_reads' HO_260001.out).2.1); rintro e w174 ⟨rfl, hb⟩; refine ⟨_, rfl, ?_⟩; have n0_ := Aq.mk (Kd.R_below (by (with_reducible repeat (first | apply Kd.RqA | apply Kd.RqN | apply Kd.RqD)); exact HO_249001.out) hb); have n1_ := Aq.mk (Kd.R_below (by (with_reducible repeat (first | apply Kd.RqA | apply Kd.RqN | apply Kd.RqD)); exact HO_254001.out) hb); have n2_ := Aq.mk (Kd.R_below (by (with_reducible repeat (first | apply Kd.RqA | apply Kd.RqN | apply Kd.RqD)); exact HO_260001.out) hb); have n3_ := Aq.mk (kQB (g := gb237) (o := .cells #[.int .i64 a0_0, .slice A0_1 l0_1.length c0_1] 24 (0, 0)) (by (with_reducible repeat (first | refine kQN ?_ _ | refine kQD ?_ | refine kQA ?_ _)); exact BK237.out) hb); have n4_ := Aq.mk (kQB (g := gb248) (o := .cells #[.int .i64 t243, .slice Ao22 t244.length co22] 26 (0, 0)) (by (with_reducible repeat (first | refine kQN ?_ _ | refine kQD ?_ | refine kQA ?_ _)); exact BK248.out) hb); have n5_ := Aq.mk (kQB (g := gb253) (o := .cells #[.int .i64 t249, .slice Ao29 t267.length co29] 26 (0, 0)) (by (with_reducible repeat (first | refine kQN ?_ _ | refine kQD ?_ | refine kQA ?_ _)); exact BK253.out) hb); have n6_ := Aq.mk (kQB (g := gb259) (o := .cells #[.int .i64 t254, .slice Ao36 t255.length co36] 26 (0, 0)) (by (with_reducible repeat (first | refine kQN ?_ _ | refine kQD ?_ | refine kQA ?_ _)); exact BK259.out) hb); have n7_ := Aq.mk (bQT (by repeat (first | (with_reducible first | exact HB.out | apply bQA | apply bQN | apply bQ1 | refine bQS ?_ GE237.out | refine bQS ?_ GE248.out | refine bQS ?_ GE253.out | refine bQS ?_ GE259.out) | exact HB.out)) hb); clear HO_249001; clear HO_254001; clear HO_260001; clear BK237; clear BK248; clear BK253; clear BK259; clear HB; have HO_249001 := n0_; have HO_254001 := n1_; have HO_260001 := n2_; have BK237 := n3_; have BK248 := n4_; have BK253 := n5_; have BK259 := n6_; have HB := n7_; clear n0_ n1_ n2_ n3_ n4_ n5_ n6_ n7_; (try clear hb); (try clear hb2); (try clear hk); (try clear hi)))
           go_ret
           exact ⟨by first | rfl | (simp [errW_none, errW_some] <;> rfl) | (simp [*, errW_none, errW_some] <;> rfl), by repeat (first | (with_reducible first | exact HB.out | apply bQA | apply bQN | apply bQ1 | refine bQS ?_ GE237.out | refine bQS ?_ GE248.out | refine bQS ?_ GE253.out | refine bQS ?_ GE259.out) | exact HB.out)⟩
     ·replace c58 := Bool.eq_false_iff.mpr c58
      subst c58
      have H1 : (some false) = some r := by rw [if_neg (show ¬ (false = true) by decide)] at H; exact H
      clear H
      have H := H1
      clear H1
      obtain rfl := Option.some.inj H
      try go_wp2
      have n0_ := Aq.mk (Kd.RqD HO_249001.out)
      have n1_ := Aq.mk (Kd.RqD HO_254001.out)
      have n2_ := Aq.mk (Kd.RqD HO_260001.out)
      have n3_ := Aq.mk (kQD BK237.out)
      have n4_ := Aq.mk (kQD BK248.out)
      have n5_ := Aq.mk (kQD BK253.out)
      have n6_ := Aq.mk (kQD BK259.out)
      have n7_ := Aq.mk (bQ1 HB.out)
      clear HO_249001
      clear HO_254001
      clear HO_260001
      clear BK237
      clear BK248
      clear BK253
      clear BK259
      clear HB
      have HO_249001 := n0_
      have HO_254001 := n1_
      have HO_260001 := n2_
      have BK237 := n3_
      have BK248 := n4_
      have BK253 := n5_
      have BK259 := n6_
      have HB := n7_
      clear n0_ n1_ n2_ n3_ n4_ n5_ n6_ n7_
      refine start_ (n := 5) (S := fun w' => w'.cell? ⟨gb253, 0, none⟩ = some (.int .i64 t249) ∧ w'.cell? ⟨gb253, 1, none⟩ = some (.slice Ao29 t250.length co29) ∧ w'.cell? ⟨gb237, 0, none⟩ = some (.int .i64 a0_0) ∧ w'.cell? ⟨gb237, 1, none⟩ = some (.slice A0_1 l0_1.length c0_1)) (ds := []) #[false, false, false, false, false] (by kernel_rfl) rfl rfl ⟨(kQC BK253.out 0).trans rfl, (kQC BK253.out 1).trans rfl, (kQC BK237.out 0).trans rfl, (kQC BK237.out 1).trans rfl⟩ (fun hHeld => ?_)
      generalize wc.drew = w175 at HO_249001 HO_254001 HO_260001 BK237 BK248 BK253 BK259 HB hHeld ⊢
      refine take_ (i := 0) (N := some 41) (v := ?_) (a' := ?_) #[true, false, false, false, false] rfl rfl (by kernel_rfl) (fun _ _ _ h => h) (Or.inl ⟨by rfl, ?_⟩) hHeld ?_ ?_
      rotate_left
      ·rintro w' ⟨s0, s1, s2, s3⟩
       go_simp
       with_reducible rfl
      rotate_left
      ·simp only [Act.put, qSa, qSb, qSc, i64_w, i32_w]
       rfl
      refine take_ (i := 1) (N := some 42) (v := ?_) (a' := ?_) #[true, true, false, false, false] rfl rfl (by kernel_rfl) (fun _ _ _ h => h) (Or.inl ⟨by rfl, ?_⟩) hHeld ?_ ?_
      rotate_left
      ·rintro w' ⟨s0, s1, s2, s3⟩
       go_simp
       with_reducible rfl
      rotate_left
      ·simp only [Act.put, qSa, qSb, qSc, i64_w, i32_w]
       rfl
      refine one_ (i := 2) (N := some 43) #[true, true, true, false, false] rfl rfl (by kernel_rfl) (by decide) (fun K hK => ?_)
      refine goes_ Try.func17 (by kernel_rfl) rfl #[.agg #[.int .i64 a0_0, .slice A0_1 l0_1.length c0_1]] (by rfl) rfl rfl (by (try simp only [List.map_toArray, List.map_cons, List.map_nil]); first | done | rfl | (simp only [List.length_drop, List.length_take]; rfl)) ?_
      with_reducible refine (laws_toMatrix.calls kj10 a0_0 _ _ l0_1 t261 t262 _ ?side1 ?side2 A56.out).mono ?_
      (case side1 => repeat (first | exact (Kd.C_below HR0_1.out HB.out) | (with_reducible refine Kd.CqA ?_ _) | (with_reducible refine Kd.CqN ?_ _) | (with_reducible refine Kd.CqD ?_)))
      (case side2 => exact HC0_1.out)
      rintro e w176 ⟨v263, rfl, ho0, hb⟩
      refine ⟨_, rfl, ?_⟩
      have n0_ := Aq.mk (Kd.R_elder' (by (with_reducible repeat (first | apply Kd.RqA | apply Kd.RqN | apply Kd.RqD)); exact HO_249001.out) (Kd.R_base ho0) hb)
      have n1_ := Aq.mk (Kd.R_elder' (by (with_reducible repeat (first | apply Kd.RqA | apply Kd.RqN | apply Kd.RqD)); exact HO_254001.out) (Kd.R_base ho0) hb)
      have n2_ := Aq.mk (Kd.R_elder' (by (with_reducible repeat (first | apply Kd.RqA | apply Kd.RqN | apply Kd.RqD)); exact HO_260001.out) (Kd.R_base ho0) hb)
      have n3_ := Aq.mk (Kd.R_lower (Kd.R_new' (Kd.R_new' (Kd.R_new' ho0 (Kd.R_lt (by (with_reducible repeat (first | apply Kd.RqA | apply Kd.RqN | apply Kd.RqD)); exact HO_249001.out))) (Kd.R_lt (by (with_reducible repeat (first | apply Kd.RqA | apply Kd.RqN | apply Kd.RqD)); exact HO_254001.out))) (Kd.R_lt (by (with_reducible repeat (first | apply Kd.RqA | apply Kd.RqN | apply Kd.RqD)); exact HO_260001.out))) (bQZ (by repeat (first | (with_reducible first | exact HB.out | apply bQA | apply bQN | apply bQ1 | refine bQS ?_ GE237.out | refine bQS ?_ GE248.out | refine bQS ?_ GE253.out | refine bQS ?_ GE259.out) | exact HB.out))))
      have n4_ := Aq.mk (kQB (g := gb237) (o := .cells #[.int .i64 a0_0, .slice A0_1 l0_1.length c0_1] 24 (0, 0)) (by (with_reducible repeat (first | refine kQN ?_ _ | refine kQD ?_ | refine kQA ?_ _)); exact BK237.out) hb)
      have n5_ := Aq.mk (kQB (g := gb248) (o := .cells #[.int .i64 t243, .slice Ao22 t244.length co22] 26 (0, 0)) (by (with_reducible repeat (first | refine kQN ?_ _ | refine kQD ?_ | refine kQA ?_ _)); exact BK248.out) hb)
      have n6_ := Aq.mk (kQB (g := gb253) (o := .cells #[.int .i64 t249, .slice Ao29 t250.length co29] 26 (0, 0)) (by (with_reducible repeat (first | refine kQN ?_ _ | refine kQD ?_ | refine kQA ?_ _)); exact BK253.out) hb)
      have n7_ := Aq.mk (kQB (g := gb259) (o := .cells #[.int .i64 t254, .slice Ao36 t255.length co36] 26 (0, 0)) (by (with_reducible repeat (first | refine kQN ?_ _ | refine kQD ?_ | refine kQA ?_ _)); exact BK259.out) hb)
      have n8_ := Aq.mk (bQT (by repeat (first | (with_reducible first | exact HB.out | apply bQA | apply bQN | apply bQ1 | refine bQS ?_ GE237.out | refine bQS ?_ GE248.out | refine bQS ?_ GE253.out | refine bQS ?_ GE259.out) | exact HB.out)) hb)
      clear HO_249001
      clear HO_254001
      clear HO_260001
      clear BK237
      clear BK248
      clear BK253
      clear BK259
      clear HB
      have HO_249001 := n0_
      have HO_254001 := n1_
      have HO_260001 := n2_
      have HO264 := n3_
      have BK237 := n4_
      have BK248 := n5_
      have BK253 := n6_
      have BK259 := n7_
      have HB := n8_
      clear n0_ n1_ n2_ n3_ n4_ n5_ n6_ n7_ n8_
      (try clear hb)
      (try clear hb2)
      (try clear hk)
      (try clear hi)
      (try clear ho0)
      obtain ⟨Ao177, co177, eo177⟩ := Kd.R_slice HO264.out
      (first | subst eo177 | (injection eo177 with f1_ f2_ f3_; have f4_ := f1_.symm; have f5_ := f3_.symm; clear f1_ f2_ f3_; subst f4_; subst f5_))
      refine hK.out _ _ ⟨(kQC BK253.out 0).trans rfl, (kQC BK253.out 1).trans rfl, (kQC BK237.out 0).trans rfl, (kQC BK237.out 1).trans rfl⟩ (fun hHeld => ?_)
      clear hK K
      refine norm_ (a' := ?_) ?_ ?_
      rotate_left
      ·show Act.put _ (some 43) _ = _
       simp only [Act.put, qSa, qSb, qSc, i64_w, i32_w]
       rfl
      refine one_ (i := 3) (N := some 44) #[true, true, true, true, false] rfl rfl (by kernel_rfl) (by decide) (fun K hK => ?_)
      refine goes_ Try.func19 (by kernel_rfl) rfl #[.agg #[.int .i64 t249, .slice Ao29 t250.length co29], .agg #[.int .i64 t261, .slice Ao177 t262.length co177]] (by rfl) rfl rfl (by (try simp only [List.map_toArray, List.map_cons, List.map_nil]); first | done | rfl | (simp only [List.length_drop, List.length_take]; rfl)) ?_
      with_reducible refine (laws_eqMatrix.calls kj10 t249 _ _ t250 t261 _ _ t262 false _ ?side1 ?side2 ?side3 ?side4 A57.out).mono ?_
      (case side1 => repeat (first | exact (Kd.R_reads' HO_254001.out).2.2 | (with_reducible refine Kd.CqA ?_ _) | (with_reducible refine Kd.CqN ?_ _) | (with_reducible refine Kd.CqD ?_)))
      (case side2 => exact (Kd.R_reads' HO_254001.out).2.1)
      (case side3 => repeat (first | exact (Kd.R_reads' HO264.out).2.2 | (with_reducible refine Kd.CqA ?_ _) | (with_reducible refine Kd.CqN ?_ _) | (with_reducible refine Kd.CqD ?_)))
      (case side4 => exact (Kd.R_reads' HO264.out).2.1)
      rintro e w178 ⟨rfl, hb⟩
      refine ⟨_, rfl, ?_⟩
      have n0_ := Aq.mk (Kd.R_below (by (with_reducible repeat (first | apply Kd.RqA | apply Kd.RqN | apply Kd.RqD)); exact HO_249001.out) hb)
      have n1_ := Aq.mk (Kd.R_below (by (with_reducible repeat (first | apply Kd.RqA | apply Kd.RqN | apply Kd.RqD)); exact HO_254001.out) hb)
      have n2_ := Aq.mk (Kd.R_below (by (with_reducible repeat (first | apply Kd.RqA | apply Kd.RqN | apply Kd.RqD)); exact HO_260001.out) hb)
      have n3_ := Aq.mk (Kd.R_below (by (with_reducible repeat (first | apply Kd.RqA | apply Kd.RqN | apply Kd.RqD)); exact HO264.out) hb)
      have n4_ := Aq.mk (kQB (g := gb237) (o := .cells #[.int .i64 a0_0, .slice A0_1 l0_1.length c0_1] 24 (0, 0)) (by (with_reducible repeat (first | refine kQN ?_ _ | refine kQD ?_ | refine kQA ?_ _)); exact BK237.out) hb)
      have n5_ := Aq.mk (kQB (g := gb248) (o := .cells #[.int .i64 t243, .slice Ao22 t244.length co22] 26 (0, 0)) (by (with_reducible repeat (first | refine kQN ?_ _ | refine kQD ?_ | refine kQA ?_ _)); exact BK248.out) hb)
      have n6_ := Aq.mk (kQB (g := gb253) (o := .cells #[.int .i64 t249, .slice Ao29 t250.length co29] 26 (0, 0)) (by (with_reducible repeat (first | refine kQN ?_ _ | refine kQD ?_ | refine kQA ?_ _)); exact BK253.out) hb)
      have n7_ := Aq.mk (kQB (g := gb259) (o := .cells #[.int .i64 t254, .slice Ao36 t255.length co36] 26 (0, 0)) (by (with_reducible repeat (first | refine kQN ?_ _ | refine kQD ?_ | refine kQA ?_ _)); exact BK259.out) hb)
      have n8_ := Aq.mk (bQT (by repeat (first | (with_reducible first | exact HB.out | apply bQA | apply bQN | apply bQ1 | refine bQS ?_ GE237.out | refine bQS ?_ GE248.out | refine bQS ?_ GE253.out | refine bQS ?_ GE259.out) | exact HB.out)) hb)
      clear HO_249001
      clear HO_254001
      clear HO_260001
      clear HO264
      clear BK237
      clear BK248
      clear BK253
      clear BK259
      clear HB
      have HO_249001 := n0_
      have HO_254001 := n1_
      have HO_260001 := n2_
      have HO264 := n3_
      have BK237 := n4_
      have BK248 := n5_
      have BK253 := n6_
      have BK259 := n7_
      have HB := n8_
      clear n0_ n1_ n2_ n3_ n4_ n5_ n6_ n7_ n8_
      (try clear hb)
      (try clear hb2)
      (try clear hk)
      (try clear hi)
      refine hK.out _ _ ⟨(kQC BK253.out 0).trans rfl, (kQC BK253.out 1).trans rfl, (kQC BK237.out 0).trans rfl, (kQC BK237.out 1).trans rfl⟩ (fun hHeld => ?_)
      clear hK K
      refine norm_ (a' := ?_) ?_ ?_
      rotate_left
      ·show Act.put _ (some 44) _ = _
       simp only [Act.put, qSa, qSb, qSc, i64_w, i32_w]
       rfl
      refine pure_ (i := 4) (N := some 45) (v := ?_) (a' := ?_) #[true, true, true, true, true] rfl rfl (by kernel_rfl) (fun _ _ _ h => h) (Or.inl ⟨by rfl, ?_⟩) ?_ ?_
      rotate_left
      ·intro w'
       go_simp
       with_reducible rfl
      rotate_left
      ·simp only [Act.put, qSa, qSb, qSc, i64_w, i32_w]
       rfl
      refine done_ (by kernel_rfl) ?_
      try go_wp2
      go_ret
      exact ⟨by first | rfl | (simp [errW_none, errW_some] <;> rfl) | (simp [*, errW_none, errW_some] <;> rfl), by repeat (first | (with_reducible first | exact HB.out | apply bQA | apply bQN | apply bQ1 | refine bQS ?_ GE237.out | refine bQS ?_ GE248.out | refine bQS ?_ GE253.out | refine bQS ?_ GE259.out) | exact HB.out)⟩
end Go.Proofs.Ytbaicdgkpnbipaa.P
