/- Functions of the program and what they tell, as the printing program wrote it. -/
import Derived.Test.YtbaicdgkpnbipaaPx0
import Derived.Test.YtbaicdgkpnbipaaPx5
import Derived.Test.YtbaicdgkpnbipaaPx10
import Derived.Test.YtbaicdgkpnbipaaPx38
import Derived.Test.YtbaicdgkpnbipaaPx40
namespace Go.Proofs.Ytbaicdgkpnbipaa.P
open Go.Shelf Go.RowKit Go.Proofs.YtbaicdgkpnbipaaW.PrintWords Go.Proofs.YtbaicdgkpnbipaaW.PrintLast Go.Proofs.YtbaicdgkpnbipaaW.PrintMore
attribute [local go_sem] max2_int min2_int max_two min_two max_three min_three max_four min_four
set_option linter.unusedVariables false
set_option linter.unusedSimpArgs false
mutual
def laws_FnExactInverseMatrix.j0 : Nat → Int → Int → Bool → Int → List Int → Int → List Int → Int → List Int → Int → List Int → Option (Bool)
  | 0, _, _, _, _, _, _, _, _, _, _, _ => none
  | k + 1, x5, x8, x40, x330000, x330001, x341000, x341001, x346000, x346001, x352000, x352001 => if x40 = true then (some false) else ((laws_toMatrix.f k x330000 x330001).bind fun bt353 => ((laws_eqMatrix.f k x346000 x346001 bt353.1 bt353.2).bind fun t357 => (if t357 = true then ((laws_markMatrix.f k x346000 x346001 1).bind fun bt358 => (if bt358.1 < 0 then (laws_FnExactInverseMatrix.j1 k x5 true x330000 x330001 x341000 x341001 x352000 x352001) else ((laws_eqMatrix.f k x352000 x352001 x341000 x341001).bind fun t360 => (if t360 = true then (laws_FnExactInverseMatrix.j1 k x5 (x8 != x5) x330000 x330001 x341000 x341001 x352000 x352001) else (laws_FnExactInverseMatrix.j1 k x5 true x330000 x330001 x341000 x341001 x352000 x352001))))) else (some false))))
def laws_FnExactInverseMatrix.j1 : Nat → Int → Bool → Int → List Int → Int → List Int → Int → List Int → Option (Bool)
  | 0, _, _, _, _, _, _, _, _ => none
  | k + 1, x5, x61, x330000, x330001, x341000, x341001, x352000, x352001 => if x61 = true then (some false) else ((laws_markMatrix.f k x352000 x352001 1).bind fun bt361 => ((laws_heldMatrix.f k x352000 bt361.2 1).bind fun t363 => (if t363 < 0 then (some false) else (if t363 = bt361.1 then ((laws_toMatrix.f k x330000 x330001).bind fun bt364 => ((impl_InverseMatrix.f k bt364.1 bt364.2).bind fun bt368 => ((laws_eqMatrix.f k bt368.1 bt368.2.1 x341000 x341001).bind fun t374 => (if t374 = true then (laws_FnExactInverseMatrix.j2 k bt361.1 (bt368.2.2 != x5) x352000 bt361.2) else (laws_FnExactInverseMatrix.j2 k bt361.1 true x352000 bt361.2))))) else (some false)))))
def laws_FnExactInverseMatrix.j2 : Nat → Int → Bool → Int → List Int → Option (Bool)
  | 0, _, _, _, _ => none
  | k + 1, x10, x87, x352000, x352001 => if x87 = true then (some false) else ((laws_heldMatrix.f k x352000 x352001 1).bind fun t375 => (if t375 < 0 then (some false) else (if t375 = x10 then (some true) else (some false))))
end
def laws_FnExactInverseMatrix.f (k : Nat) (a0_0 : Int) (l0_1 : List Int) : Option (Bool) := (laws_szMatrix.f a0_0 l0_1 1048576).bind fun t330 => (if t330 < 0 then (some true) else ((laws_toMatrix.f k a0_0 l0_1).bind fun bt331 => ((spec_InverseMatrix.f k bt331.1 bt331.2).bind fun bt335 => ((laws_toMatrix.f k a0_0 l0_1).bind fun bt341 => ((impl_InverseMatrix.f k bt341.1 bt341.2).bind fun bt346 => ((laws_eqMatrix.f k bt346.1 bt346.2.1 bt335.1 bt335.2.1).bind fun t352 => (if t352 = true then (laws_FnExactInverseMatrix.j0 k bt335.2.2 bt346.2.2 (bt346.2.2 != bt335.2.2) a0_0 l0_1 bt335.1 bt335.2.1 bt341.1 bt341.2 bt346.1 bt346.2.1) else (laws_FnExactInverseMatrix.j0 k bt335.2.2 bt346.2.2 true a0_0 l0_1 bt335.1 bt335.2.1 bt341.1 bt341.2 bt346.1 bt346.2.1))))))))
theorem laws_FnExactInverseMatrix.mono_l : ∀ k, (∀ y0 y1 y2 y3 y4 y5 y6 y7 y8 y9 y10, LeO (laws_FnExactInverseMatrix.j0 k y0 y1 y2 y3 y4 y5 y6 y7 y8 y9 y10) (laws_FnExactInverseMatrix.j0 (k + 1) y0 y1 y2 y3 y4 y5 y6 y7 y8 y9 y10)) ∧ (∀ y0 y1 y2 y3 y4 y5 y6 y7, LeO (laws_FnExactInverseMatrix.j1 k y0 y1 y2 y3 y4 y5 y6 y7) (laws_FnExactInverseMatrix.j1 (k + 1) y0 y1 y2 y3 y4 y5 y6 y7)) ∧ (∀ y0 y1 y2 y3, LeO (laws_FnExactInverseMatrix.j2 k y0 y1 y2 y3) (laws_FnExactInverseMatrix.j2 (k + 1) y0 y1 y2 y3))
 | 0 => ⟨fun _ _ _ _ _ _ _ _ _ _ _ r h => by simp [laws_FnExactInverseMatrix.j0] at h, fun _ _ _ _ _ _ _ _ r h => by simp [laws_FnExactInverseMatrix.j1] at h, fun _ _ _ _ r h => by simp [laws_FnExactInverseMatrix.j2] at h⟩
 | k + 1 => by
  obtain ⟨ih0, ih1, ih2⟩ := laws_FnExactInverseMatrix.mono_l k
  refine ⟨?_, ?_, ?_⟩
  ·intro y0 y1 y2 y3 y4 y5 y6 y7 y8 y9 y10
   unfold laws_FnExactInverseMatrix.j0
   repeat' first
   | (with_reducible first | exact ih0 _ _ _ _ _ _ _ _ _ _ _ | exact ih1 _ _ _ _ _ _ _ _ | exact ih2 _ _ _ _ | exact impl_InverseMatrix.mono _ _ _ | exact laws_eqMatrix.mono _ _ _ _ _ | exact laws_heldMatrix.mono _ _ _ _ | exact laws_markMatrix.mono _ _ _ _ | exact laws_toMatrix.mono _ _ _ | exact spec_InverseMatrix.mono _ _ _ | exact LeO.refl _ | exact LeO.none _ | refine LeO.ite ?_ ?_ | refine LeO.bind ?_ (fun _ => ?_))
   | exact LeO.none _
   | refine LeO.ite ?_ ?_
   | refine LeO.bind ?_ (fun _ => ?_)
  ·intro y0 y1 y2 y3 y4 y5 y6 y7
   unfold laws_FnExactInverseMatrix.j1
   repeat' first
   | (with_reducible first | exact ih0 _ _ _ _ _ _ _ _ _ _ _ | exact ih1 _ _ _ _ _ _ _ _ | exact ih2 _ _ _ _ | exact impl_InverseMatrix.mono _ _ _ | exact laws_eqMatrix.mono _ _ _ _ _ | exact laws_heldMatrix.mono _ _ _ _ | exact laws_markMatrix.mono _ _ _ _ | exact laws_toMatrix.mono _ _ _ | exact spec_InverseMatrix.mono _ _ _ | exact LeO.refl _ | exact LeO.none _ | refine LeO.ite ?_ ?_ | refine LeO.bind ?_ (fun _ => ?_))
   | exact LeO.none _
   | refine LeO.ite ?_ ?_
   | refine LeO.bind ?_ (fun _ => ?_)
  ·intro y0 y1 y2 y3
   unfold laws_FnExactInverseMatrix.j2
   repeat' first
   | (with_reducible first | exact ih0 _ _ _ _ _ _ _ _ _ _ _ | exact ih1 _ _ _ _ _ _ _ _ | exact ih2 _ _ _ _ | exact impl_InverseMatrix.mono _ _ _ | exact laws_eqMatrix.mono _ _ _ _ _ | exact laws_heldMatrix.mono _ _ _ _ | exact laws_markMatrix.mono _ _ _ _ | exact laws_toMatrix.mono _ _ _ | exact spec_InverseMatrix.mono _ _ _ | exact LeO.refl _ | exact LeO.none _ | refine LeO.ite ?_ ?_ | refine LeO.bind ?_ (fun _ => ?_))
   | exact LeO.none _
   | refine LeO.ite ?_ ?_
   | refine LeO.bind ?_ (fun _ => ?_)
theorem laws_FnExactInverseMatrix.mono : ∀ a0 a1 k, LeO (laws_FnExactInverseMatrix.f k a0 a1) (laws_FnExactInverseMatrix.f (k + 1) a0 a1) := by
 intro a0 a1 k
 obtain ⟨ih0, ih1, ih2⟩ := laws_FnExactInverseMatrix.mono_l k
 unfold laws_FnExactInverseMatrix.f
 repeat' first
  | (with_reducible first | exact ih0 _ _ _ _ _ _ _ _ _ _ _ | exact ih1 _ _ _ _ _ _ _ _ | exact ih2 _ _ _ _ | exact impl_InverseMatrix.mono _ _ _ | exact laws_eqMatrix.mono _ _ _ _ _ | exact laws_heldMatrix.mono _ _ _ _ | exact laws_markMatrix.mono _ _ _ _ | exact laws_toMatrix.mono _ _ _ | exact spec_InverseMatrix.mono _ _ _ | exact LeO.refl _ | exact LeO.none _ | refine LeO.ite ?_ ?_ | refine LeO.bind ?_ (fun _ => ?_))
  | exact LeO.none _
  | refine LeO.ite ?_ ?_
  | refine LeO.bind ?_ (fun _ => ?_)
set_option maxHeartbeats 8000000 in
set_option maxRecDepth 100000 in
theorem laws_FnExactInverseMatrix.calls (k : Nat) (a0_0 : Int) (A0_1 : Option Addr) (c0_1 : Nat) (l0_1 : List Int) (r : Bool) (w : World) (hr0_1 : Kd.C (Kd.int .i64) w A0_1 l0_1.length l0_1) (hc0_1 : l0_1.length ≤ c0_1) (h : laws_FnExactInverseMatrix.f k a0_0 l0_1 = some r) :
 Calls Try.prog 4 #[.agg #[.int .i64 a0_0, .slice A0_1 l0_1.length c0_1]] w fun e w' => e = .returned (.bool r) ∧ Below w.heap.size w w' := by
 have hu24 := Try.underlying24
 have hu26 := Try.underlying26
 have HR0_1 := Aq.mk hr0_1
 have HC0_1 := Aq.mk hc0_1
 clear hr0_1 hc0_1
 have HB := Aq.mk (Below.refl w.heap.size w)
 have H : ((laws_szMatrix.f a0_0 l0_1 1048576).bind fun t330 => (if t330 < 0 then (some true) else ((laws_toMatrix.f k a0_0 l0_1).bind fun bt331 => ((spec_InverseMatrix.f k bt331.1 bt331.2).bind fun bt335 => ((laws_toMatrix.f k a0_0 l0_1).bind fun bt341 => ((impl_InverseMatrix.f k bt341.1 bt341.2).bind fun bt346 => ((laws_eqMatrix.f k bt346.1 bt346.2.1 bt335.1 bt335.2.1).bind fun t352 => (if t352 = true then (laws_FnExactInverseMatrix.j0 k bt335.2.2 bt346.2.2 (bt346.2.2 != bt335.2.2) a0_0 l0_1 bt335.1 bt335.2.1 bt341.1 bt341.2 bt346.1 bt346.2.1) else (laws_FnExactInverseMatrix.j0 k bt335.2.2 bt346.2.2 true a0_0 l0_1 bt335.1 bt335.2.1 bt341.1 bt341.2 bt346.1 bt346.2.1))))))))) = some r := h
 clear h
 replace H := Option.bind_eq_some_iff.mp H
 obtain ⟨t330, A20, H⟩ := H
 replace H : (if t330 < 0 then (some true) else ((laws_toMatrix.f k a0_0 l0_1).bind fun bt331 => ((spec_InverseMatrix.f k bt331.1 bt331.2).bind fun bt335 => ((laws_toMatrix.f k a0_0 l0_1).bind fun bt341 => ((impl_InverseMatrix.f k bt341.1 bt341.2).bind fun bt346 => ((laws_eqMatrix.f k bt346.1 bt346.2.1 bt335.1 bt335.2.1).bind fun t352 => (if t352 = true then (laws_FnExactInverseMatrix.j0 k bt335.2.2 bt346.2.2 (bt346.2.2 != bt335.2.2) a0_0 l0_1 bt335.1 bt335.2.1 bt341.1 bt341.2 bt346.1 bt346.2.1) else (laws_FnExactInverseMatrix.j0 k bt335.2.2 bt346.2.2 true a0_0 l0_1 bt335.1 bt335.2.1 bt341.1 bt341.2 bt346.1 bt346.2.1)))))))) = some r := H
 have A2 := Aq.mk A20
 clear A20
 by_cases c3 : t330 < 0
 ·rw [if_pos c3] at H
  have c3b0 : decide (t330 < 0) = true := decide_eq_true c3
  clear c3
  obtain rfl := Option.some.inj H
  go_enter Try.func4, Try.ntmps4
  go_wp2_with (first | ((with_reducible refine gQd (N := 1) rfl ?_); refine xQe ?hg (N := 1) ?hd (cs := #[.int .i64 a0_0, .slice A0_1 l0_1.length c0_1]) (t := 24) ?hr ?_; (case hd => rfl); (case hg => rfl); (case hr => first | (go_simp; done) | (go_simp; rfl)); intro gb329 hg w4 hbox hb; have n0_ := Aq.mk (bQT (by repeat (first | (with_reducible first | exact HB.out | apply bQA | apply bQN | apply bQ1) | exact HB.out)) hb); have n1_ := Aq.mk (hbox); have n2_ := Aq.mk ((by rw [hg]; exact (bQZ (by repeat (first | (with_reducible first | exact HB.out | apply bQA | apply bQN | apply bQ1) | exact HB.out))) : w.heap.size ≤ gb329)); have n3_ := Aq.mk ((by rw [hg]; exact (bQZ (by repeat (first | (with_reducible first | exact HB.out | apply bQA | apply bQN | apply bQ1) | exact HB.out))) : w.heap.size ≤ gb329)); clear HB; have HB := n0_; have BK329 := n1_; have GW329 := n2_; have GE329 := n3_; clear n0_ n1_ n2_ n3_; clear hb hbox hg; have hcz5_0 : w4.cell? ⟨gb329, 0, none⟩ = some (.int .i64 a0_0) := (kQC BK329.out 0).trans rfl; have hcz5_1 : w4.cell? ⟨gb329, 1, none⟩ = some (.slice A0_1 l0_1.length c0_1) := (kQC BK329.out 1).trans rfl; have hfz5_0 := kQF BK329.out 0; have hfz5_1 := kQF BK329.out 1) | ((with_reducible refine gQc (f := 15) rfl ?_); refine goesL_ (some 16) rfl rfl Try.func15 (by kernel_rfl) rfl #[.agg #[.int .i64 a0_0, .slice A0_1 l0_1.length c0_1], .int .i64 1048576] rfl (by (try simp only [List.map_toArray, List.map_cons, List.map_nil]); first | done | rfl | (simp only [List.length_drop, List.length_take]; rfl)) ?_; (with_reducible refine (laws_szMatrix.calls a0_0 _ _ l0_1 1048576 t330 _ ?side1 ?side2 A2.out).mono ?_); (case side1 => repeat (first | exact (Kd.C_below HR0_1.out HB.out) | (with_reducible refine Kd.CqA ?_ _) | (with_reducible refine Kd.CqN ?_ _) | (with_reducible refine Kd.CqD ?_))); (case side2 => exact HC0_1.out); rintro e w6 ⟨rfl, hb⟩; refine ⟨_, rfl, ?_⟩; have n0_ := Aq.mk (kQB (g := gb329) (o := .cells #[.int .i64 a0_0, .slice A0_1 l0_1.length c0_1] 24 (0, 0)) (by (with_reducible repeat (first | refine kQN ?_ _ | refine kQD ?_ | refine kQA ?_ _)); exact BK329.out) hb); have n1_ := Aq.mk (bQT (by repeat (first | (with_reducible first | exact HB.out | apply bQA | apply bQN | apply bQ1 | refine bQS ?_ GE329.out) | exact HB.out)) hb); clear BK329; clear HB; have BK329 := n0_; have HB := n1_; clear n0_ n1_; (try clear hb); (try clear hb2); (try clear hk); (try clear hi)))
  go_ret
  exact ⟨by first | rfl | (simp [errW_none, errW_some] <;> rfl) | (simp [*, errW_none, errW_some] <;> rfl), by repeat (first | (with_reducible first | exact HB.out | apply bQA | apply bQN | apply bQ1 | refine bQS ?_ GE329.out) | exact HB.out)⟩
 ·rw [if_neg c3] at H
  have c3b0 : decide (t330 < 0) = false := decide_eq_false c3
  clear c3
  replace H := Option.bind_eq_some_iff.mp H
  obtain ⟨⟨t331, t332⟩, A70, H⟩ := H
  replace H : ((spec_InverseMatrix.f k t331 t332).bind fun bt335 => ((laws_toMatrix.f k a0_0 l0_1).bind fun bt341 => ((impl_InverseMatrix.f k bt341.1 bt341.2).bind fun bt346 => ((laws_eqMatrix.f k bt346.1 bt346.2.1 bt335.1 bt335.2.1).bind fun t352 => (if t352 = true then (laws_FnExactInverseMatrix.j0 k bt335.2.2 bt346.2.2 (bt346.2.2 != bt335.2.2) a0_0 l0_1 bt335.1 bt335.2.1 bt341.1 bt341.2 bt346.1 bt346.2.1) else (laws_FnExactInverseMatrix.j0 k bt335.2.2 bt346.2.2 true a0_0 l0_1 bt335.1 bt335.2.1 bt341.1 bt341.2 bt346.1 bt346.2.1)))))) = some r := H
  have A7 := Aq.mk A70
  clear A70
  replace H := Option.bind_eq_some_iff.mp H
  obtain ⟨⟨t335, t336, t339⟩, A80, H⟩ := H
  replace H : ((laws_toMatrix.f k a0_0 l0_1).bind fun bt341 => ((impl_InverseMatrix.f k bt341.1 bt341.2).bind fun bt346 => ((laws_eqMatrix.f k bt346.1 bt346.2.1 t335 t336).bind fun t352 => (if t352 = true then (laws_FnExactInverseMatrix.j0 k t339 bt346.2.2 (bt346.2.2 != t339) a0_0 l0_1 t335 t336 bt341.1 bt341.2 bt346.1 bt346.2.1) else (laws_FnExactInverseMatrix.j0 k t339 bt346.2.2 true a0_0 l0_1 t335 t336 bt341.1 bt341.2 bt346.1 bt346.2.1))))) = some r := H
  have A8 := Aq.mk A80
  clear A80
  replace H := Option.bind_eq_some_iff.mp H
  obtain ⟨⟨t341, t342⟩, A90, H⟩ := H
  replace H : ((impl_InverseMatrix.f k t341 t342).bind fun bt346 => ((laws_eqMatrix.f k bt346.1 bt346.2.1 t335 t336).bind fun t352 => (if t352 = true then (laws_FnExactInverseMatrix.j0 k t339 bt346.2.2 (bt346.2.2 != t339) a0_0 l0_1 t335 t336 t341 t342 bt346.1 bt346.2.1) else (laws_FnExactInverseMatrix.j0 k t339 bt346.2.2 true a0_0 l0_1 t335 t336 t341 t342 bt346.1 bt346.2.1)))) = some r := H
  have A9 := Aq.mk A90
  clear A90
  replace H := Option.bind_eq_some_iff.mp H
  obtain ⟨⟨t346, t347, t350⟩, A100, H⟩ := H
  replace H : ((laws_eqMatrix.f k t346 t347 t335 t336).bind fun t352 => (if t352 = true then (laws_FnExactInverseMatrix.j0 k t339 t350 (t350 != t339) a0_0 l0_1 t335 t336 t341 t342 t346 t347) else (laws_FnExactInverseMatrix.j0 k t339 t350 true a0_0 l0_1 t335 t336 t341 t342 t346 t347))) = some r := H
  have A10 := Aq.mk A100
  clear A100
  have HC11 := Aq.mk H
  clear H
  go_enter Try.func4, Try.ntmps4
  go_upto_region 8 with (first | ((with_reducible refine gQd (N := 1) rfl ?_); refine xQe ?hg (N := 1) ?hd (cs := #[.int .i64 a0_0, .slice A0_1 l0_1.length c0_1]) (t := 24) ?hr ?_; (case hd => rfl); (case hg => rfl); (case hr => first | (go_simp; done) | (go_simp; rfl)); intro gb329 hg w12 hbox hb; have n0_ := Aq.mk (bQT (by repeat (first | (with_reducible first | exact HB.out | apply bQA | apply bQN | apply bQ1) | exact HB.out)) hb); have n1_ := Aq.mk (hbox); have n2_ := Aq.mk ((by rw [hg]; exact (bQZ (by repeat (first | (with_reducible first | exact HB.out | apply bQA | apply bQN | apply bQ1) | exact HB.out))) : w.heap.size ≤ gb329)); have n3_ := Aq.mk ((by rw [hg]; exact (bQZ (by repeat (first | (with_reducible first | exact HB.out | apply bQA | apply bQN | apply bQ1) | exact HB.out))) : w.heap.size ≤ gb329)); clear HB; have HB := n0_; have BK329 := n1_; have GW329 := n2_; have GE329 := n3_; clear n0_ n1_ n2_ n3_; clear hb hbox hg; have hcz13_0 : w12.cell? ⟨gb329, 0, none⟩ = some (.int .i64 a0_0) := (kQC BK329.out 0).trans rfl; have hcz13_1 : w12.cell? ⟨gb329, 1, none⟩ = some (.slice A0_1 l0_1.length c0_1) := (kQC BK329.out 1).trans rfl; have hfz13_0 := kQF BK329.out 0; have hfz13_1 := kQF BK329.out 1) | ((with_reducible refine gQc (f := 15) rfl ?_); refine goesL_ (some 16) rfl rfl Try.func15 (by kernel_rfl) rfl #[.agg #[.int .i64 a0_0, .slice A0_1 l0_1.length c0_1], .int .i64 1048576] rfl (by (try simp only [List.map_toArray, List.map_cons, List.map_nil]); first | done | rfl | (simp only [List.length_drop, List.length_take]; rfl)) ?_; (with_reducible refine (laws_szMatrix.calls a0_0 _ _ l0_1 1048576 t330 _ ?side1 ?side2 A2.out).mono ?_); (case side1 => repeat (first | exact (Kd.C_below HR0_1.out HB.out) | (with_reducible refine Kd.CqA ?_ _) | (with_reducible refine Kd.CqN ?_ _) | (with_reducible refine Kd.CqD ?_))); (case side2 => exact HC0_1.out); rintro e w14 ⟨rfl, hb⟩; refine ⟨_, rfl, ?_⟩; have n0_ := Aq.mk (kQB (g := gb329) (o := .cells #[.int .i64 a0_0, .slice A0_1 l0_1.length c0_1] 24 (0, 0)) (by (with_reducible repeat (first | refine kQN ?_ _ | refine kQD ?_ | refine kQA ?_ _)); exact BK329.out) hb); have n1_ := Aq.mk (bQT (by repeat (first | (with_reducible first | exact HB.out | apply bQA | apply bQN | apply bQ1 | refine bQS ?_ GE329.out) | exact HB.out)) hb); clear BK329; clear HB; have BK329 := n0_; have HB := n1_; clear n0_ n1_; (try clear hb); (try clear hb2); (try clear hk); (try clear hi); have hcz15_0 : w14.cell? ⟨gb329, 0, none⟩ = some (.int .i64 a0_0) := (kQC BK329.out 0).trans rfl; have hcz15_1 : w14.cell? ⟨gb329, 1, none⟩ = some (.slice A0_1 l0_1.length c0_1) := (kQC BK329.out 1).trans rfl; have hfz15_0 := kQF BK329.out 0; have hfz15_1 := kQF BK329.out 1) | ((with_reducible refine gQc (f := 17) rfl ?_); refine goesL_ (some 21) rfl rfl Try.func17 (by kernel_rfl) rfl #[.agg #[.int .i64 a0_0, .slice A0_1 l0_1.length c0_1]] rfl (by (try simp only [List.map_toArray, List.map_cons, List.map_nil]); first | done | rfl | (simp only [List.length_drop, List.length_take]; rfl)) ?_; (with_reducible refine (laws_toMatrix.calls k a0_0 _ _ l0_1 t331 t332 _ ?side1 ?side2 A7.out).mono ?_); (case side1 => repeat (first | exact (Kd.C_below HR0_1.out HB.out) | (with_reducible refine Kd.CqA ?_ _) | (with_reducible refine Kd.CqN ?_ _) | (with_reducible refine Kd.CqD ?_))); (case side2 => exact HC0_1.out); rintro e w16 ⟨v333, rfl, ho0, hb⟩; refine ⟨_, rfl, ?_⟩; have n0_ := Aq.mk (Kd.R_lower ho0 (bQZ (by repeat (first | (with_reducible first | exact HB.out | apply bQA | apply bQN | apply bQ1 | refine bQS ?_ GE329.out) | exact HB.out)))); have n1_ := Aq.mk (kQB (g := gb329) (o := .cells #[.int .i64 a0_0, .slice A0_1 l0_1.length c0_1] 24 (0, 0)) (by (with_reducible repeat (first | refine kQN ?_ _ | refine kQD ?_ | refine kQA ?_ _)); exact BK329.out) hb); have n2_ := Aq.mk (bQT (by repeat (first | (with_reducible first | exact HB.out | apply bQA | apply bQN | apply bQ1 | refine bQS ?_ GE329.out) | exact HB.out)) hb); clear BK329; clear HB; have HO334 := n0_; have BK329 := n1_; have HB := n2_; clear n0_ n1_ n2_; (try clear hb); (try clear hb2); (try clear hk); (try clear hi); (try clear ho0); obtain ⟨Ao17, co17, eo17⟩ := Kd.R_slice HO334.out; subst eo17) | ((with_reducible refine gQc (f := 22) rfl ?_); refine goesL_ (some 22) rfl rfl Try.func22 (by kernel_rfl) rfl #[.agg #[.int .i64 t331, .slice Ao17 t332.length co17]] rfl (by (try simp only [List.map_toArray, List.map_cons, List.map_nil]); first | done | rfl | (simp only [List.length_drop, List.length_take]; rfl)) ?_; (with_reducible refine (spec_InverseMatrix.calls k t331 _ _ t332 t335 t336 t339 _ ?side1 ?side2 A8.out).mono ?_); (case side1 => repeat (first | exact (Kd.R_reads' HO334.out).2.2 | (with_reducible refine Kd.CqA ?_ _) | (with_reducible refine Kd.CqN ?_ _) | (with_reducible refine Kd.CqD ?_))); (case side2 => exact (Kd.R_reads' HO334.out).2.1); rintro e w18 ⟨v337, rfl, ho0, hb⟩; refine ⟨_, rfl, ?_⟩; have n0_ := Aq.mk (Kd.R_elder' (by (with_reducible repeat (first | apply Kd.RqA | apply Kd.RqN | apply Kd.RqD)); exact HO334.out) (Kd.R_base ho0) hb); have n1_ := Aq.mk (Kd.R_lower (Kd.R_new' ho0 (Kd.R_lt (by (with_reducible repeat (first | apply Kd.RqA | apply Kd.RqN | apply Kd.RqD)); exact HO334.out))) (bQZ (by repeat (first | (with_reducible first | exact HB.out | apply bQA | apply bQN | apply bQ1 | refine bQS ?_ GE329.out) | exact HB.out)))); have n2_ := Aq.mk (kQB (g := gb329) (o := .cells #[.int .i64 a0_0, .slice A0_1 l0_1.length c0_1] 24 (0, 0)) (by (with_reducible repeat (first | refine kQN ?_ _ | refine kQD ?_ | refine kQA ?_ _)); exact BK329.out) hb); have n3_ := Aq.mk (bQT (by repeat (first | (with_reducible first | exact HB.out | apply bQA | apply bQN | apply bQ1 | refine bQS ?_ GE329.out) | exact HB.out)) hb); clear HO334; clear BK329; clear HB; have HO334 := n0_; have HO338 := n1_; have BK329 := n2_; have HB := n3_; clear n0_ n1_ n2_ n3_; (try clear hb); (try clear hb2); (try clear hk); (try clear hi); (try clear ho0)) | ((with_reducible refine gQd (N := 4) rfl ?_); refine xQe ?hg (N := 4) ?hd (cs := #[.int .i64 0, .slice none 0 0]) (t := 26) ?hr ?_; (case hd => rfl); (case hg => rfl); (case hr => first | (go_simp; done) | (go_simp; rfl)); intro gb340 hg w19 hbox hb; have n0_ := Aq.mk (Kd.R_below (by (with_reducible repeat (first | apply Kd.RqA | apply Kd.RqN | apply Kd.RqD)); exact HO334.out) hb); have n1_ := Aq.mk (Kd.R_below (by (with_reducible repeat (first | apply Kd.RqA | apply Kd.RqN | apply Kd.RqD)); exact HO338.out) hb); have n2_ := Aq.mk (kQB (g := gb329) (o := .cells #[.int .i64 a0_0, .slice A0_1 l0_1.length c0_1] 24 (0, 0)) (by (with_reducible repeat (first | refine kQN ?_ _ | refine kQD ?_ | refine kQA ?_ _)); exact BK329.out) hb); have n3_ := Aq.mk (bQT (by repeat (first | (with_reducible first | exact HB.out | apply bQA | apply bQN | apply bQ1 | refine bQS ?_ GE329.out) | exact HB.out)) hb); have n4_ := Aq.mk (hbox); have n5_ := Aq.mk ((by rw [hg]; exact (bQZ (by repeat (first | (with_reducible first | exact HB.out | apply bQA | apply bQN | apply bQ1 | refine bQS ?_ GE329.out) | exact HB.out))) : w.heap.size ≤ gb340)); have n6_ := Aq.mk ((by rw [hg]; exact (bQZ (by repeat (first | (with_reducible first | exact HB.out | apply bQA | apply bQN | apply bQ1 | refine bQS ?_ GE329.out) | exact HB.out))) : w.heap.size ≤ gb340)); have n7_ := Aq.mk ((by rw [hg]; exact Nat.ne_of_lt (blk_lt (g := gb329) (o := .cells #[.int .i64 a0_0, .slice A0_1 l0_1.length c0_1] 24 (0, 0)) (by (with_reducible repeat (first | refine kQN ?_ _ | refine kQD ?_ | refine kQA ?_ _)); exact BK329.out)) : gb329 ≠ gb340)); have n8_ := Aq.mk ((by rw [hg]; exact Nat.ne_of_gt (blk_lt (g := gb329) (o := .cells #[.int .i64 a0_0, .slice A0_1 l0_1.length c0_1] 24 (0, 0)) (by (with_reducible repeat (first | refine kQN ?_ _ | refine kQD ?_ | refine kQA ?_ _)); exact BK329.out)) : gb340 ≠ gb329)); clear HO334; clear HO338; clear BK329; clear HB; have HO334 := n0_; have HO338 := n1_; have BK329 := n2_; have HB := n3_; have BK340 := n4_; have GW340 := n5_; have GE340 := n6_; have NB329_340 := n7_; have NB340_329 := n8_; clear n0_ n1_ n2_ n3_ n4_ n5_ n6_ n7_ n8_; clear hb hbox hg; have hnb20 := NB340_329.out; have hnc20 := NB329_340.out; have hcz21_0 : w19.cell? ⟨gb340, 0, none⟩ = some (.int .i64 0) := (kQC BK340.out 0).trans rfl; have hcz21_1 : w19.cell? ⟨gb340, 1, none⟩ = some (.slice none 0 0) := (kQC BK340.out 1).trans rfl; have hfz21_0 := kQF BK340.out 0; have hfz21_1 := kQF BK340.out 1; obtain ⟨Ao22, co22, eo22⟩ := Kd.R_slice HO338.out; subst eo22; have hcz23_0 : w19.cell? ⟨gb329, 0, none⟩ = some (.int .i64 a0_0) := (kQC BK329.out 0).trans rfl; have hcz23_1 : w19.cell? ⟨gb329, 1, none⟩ = some (.slice A0_1 l0_1.length c0_1) := (kQC BK329.out 1).trans rfl; have hfz23_0 := kQF BK329.out 0; have hfz23_1 := kQF BK329.out 1) | ((with_reducible refine gQc (f := 17) rfl ?_); refine goesL_ (some 26) rfl rfl Try.func17 (by kernel_rfl) rfl #[.agg #[.int .i64 a0_0, .slice A0_1 l0_1.length c0_1]] rfl (by (try simp only [List.map_toArray, List.map_cons, List.map_nil]); first | done | rfl | (simp only [List.length_drop, List.length_take]; rfl)) ?_; (with_reducible refine (laws_toMatrix.calls k a0_0 _ _ l0_1 t341 t342 _ ?side1 ?side2 A9.out).mono ?_); (case side1 => exact Kd.C_below HR0_1.out (by repeat (first | (with_reducible first | exact HB.out | apply bQA | apply bQN | apply bQ1 | refine bQS ?_ GE329.out | refine bQS ?_ GE340.out) | exact HB.out))); (case side2 => exact HC0_1.out); rintro e w24 ⟨v343, rfl, ho0, hb⟩; refine ⟨_, rfl, ?_⟩; have n0_ := Aq.mk (Kd.R_elder' (by (with_reducible repeat (first | apply Kd.RqA | apply Kd.RqN | apply Kd.RqD)); exact (Kd.R_mono (Kd.R_far (p := ⟨gb340, 1, none⟩) (Kd.R_far (p := ⟨gb340, 0, none⟩) (Kd.R_types HO334.out BK340.out (by decide)) (fun _ hk => hk.2) (.int .i64 t335)) (fun _ hk => hk.2) (.slice Ao22 t336.length co22)) (fun _ h_ => h_.1))) (Kd.R_base ho0) hb); have n1_ := Aq.mk (Kd.R_elder' (by (with_reducible repeat (first | apply Kd.RqA | apply Kd.RqN | apply Kd.RqD)); exact (Kd.R_mono (Kd.R_far (p := ⟨gb340, 1, none⟩) (Kd.R_far (p := ⟨gb340, 0, none⟩) (Kd.R_types HO338.out BK340.out (by decide)) (fun _ hk => hk.2) (.int .i64 t335)) (fun _ hk => hk.2) (.slice Ao22 t336.length co22)) (fun _ h_ => h_.1))) (Kd.R_base ho0) hb); have n2_ := Aq.mk (Kd.R_lower (Kd.R_new' (Kd.R_new' ho0 (Kd.R_lt (by (with_reducible repeat (first | apply Kd.RqA | apply Kd.RqN | apply Kd.RqD)); exact (Kd.R_mono (Kd.R_far (p := ⟨gb340, 1, none⟩) (Kd.R_far (p := ⟨gb340, 0, none⟩) (Kd.R_types HO334.out BK340.out (by decide)) (fun _ hk => hk.2) (.int .i64 t335)) (fun _ hk => hk.2) (.slice Ao22 t336.length co22)) (fun _ h_ => h_.1))))) (Kd.R_lt (by (with_reducible repeat (first | apply Kd.RqA | apply Kd.RqN | apply Kd.RqD)); exact (Kd.R_mono (Kd.R_far (p := ⟨gb340, 1, none⟩) (Kd.R_far (p := ⟨gb340, 0, none⟩) (Kd.R_types HO338.out BK340.out (by decide)) (fun _ hk => hk.2) (.int .i64 t335)) (fun _ hk => hk.2) (.slice Ao22 t336.length co22)) (fun _ h_ => h_.1))))) (bQZ (by repeat (first | (with_reducible first | exact HB.out | apply bQA | apply bQN | apply bQ1 | refine bQS ?_ GE329.out | refine bQS ?_ GE340.out) | exact HB.out)))); have n3_ := Aq.mk (kQB (g := gb329) (o := .cells #[.int .i64 a0_0, .slice A0_1 l0_1.length c0_1] 24 (0, 0)) (by (with_reducible repeat (first | refine kQN ?_ _ | refine kQD ?_ | refine kQA ?_ _)); refine kQR ?_ NB329_340.out _; (with_reducible repeat (first | refine kQN ?_ _ | refine kQD ?_ | refine kQA ?_ _)); refine kQR ?_ NB329_340.out _; (with_reducible repeat (first | refine kQN ?_ _ | refine kQD ?_ | refine kQA ?_ _)); exact BK329.out) hb); have n4_ := Aq.mk (kQB (g := gb340) (o := .cells #[.int .i64 t335, .slice Ao22 t336.length co22] 26 (0, 0)) (by (with_reducible repeat (first | refine kQN ?_ _ | refine kQD ?_ | refine kQA ?_ _)); refine kQP (cs := #[.int .i64 t335, .slice none 0 0]) ?_ 1 _ rfl; (with_reducible repeat (first | refine kQN ?_ _ | refine kQD ?_ | refine kQA ?_ _)); refine kQP (cs := #[.int .i64 0, .slice none 0 0]) ?_ 0 _ rfl; (with_reducible repeat (first | refine kQN ?_ _ | refine kQD ?_ | refine kQA ?_ _)); exact BK340.out) hb); have n5_ := Aq.mk (bQT (by repeat (first | (with_reducible first | exact HB.out | apply bQA | apply bQN | apply bQ1 | refine bQS ?_ GE329.out | refine bQS ?_ GE340.out) | exact HB.out)) hb); clear HO334; clear HO338; clear BK329; clear BK340; clear HB; have HO334 := n0_; have HO338 := n1_; have HO344 := n2_; have BK329 := n3_; have BK340 := n4_; have HB := n5_; clear n0_ n1_ n2_ n3_ n4_ n5_; (try clear hb); (try clear hb2); (try clear hk); (try clear hi); (try clear ho0)) | ((with_reducible refine gQd (N := 6) rfl ?_); refine xQe ?hg (N := 6) ?hd (cs := #[.int .i64 0, .slice none 0 0]) (t := 26) ?hr ?_; (case hd => rfl); (case hg => rfl); (case hr => first | (go_simp; done) | (go_simp; rfl)); intro gb345 hg w25 hbox hb; have n0_ := Aq.mk (Kd.R_below (by (with_reducible repeat (first | apply Kd.RqA | apply Kd.RqN | apply Kd.RqD)); exact HO334.out) hb); have n1_ := Aq.mk (Kd.R_below (by (with_reducible repeat (first | apply Kd.RqA | apply Kd.RqN | apply Kd.RqD)); exact HO338.out) hb); have n2_ := Aq.mk (Kd.R_below (by (with_reducible repeat (first | apply Kd.RqA | apply Kd.RqN | apply Kd.RqD)); exact HO344.out) hb); have n3_ := Aq.mk (kQB (g := gb329) (o := .cells #[.int .i64 a0_0, .slice A0_1 l0_1.length c0_1] 24 (0, 0)) (by (with_reducible repeat (first | refine kQN ?_ _ | refine kQD ?_ | refine kQA ?_ _)); exact BK329.out) hb); have n4_ := Aq.mk (kQB (g := gb340) (o := .cells #[.int .i64 t335, .slice Ao22 t336.length co22] 26 (0, 0)) (by (with_reducible repeat (first | refine kQN ?_ _ | refine kQD ?_ | refine kQA ?_ _)); exact BK340.out) hb); have n5_ := Aq.mk (bQT (by repeat (first | (with_reducible first | exact HB.out | apply bQA | apply bQN | apply bQ1 | refine bQS ?_ GE329.out | refine bQS ?_ GE340.out) | exact HB.out)) hb); have n6_ := Aq.mk (hbox); have n7_ := Aq.mk ((by rw [hg]; exact (bQZ (by repeat (first | (with_reducible first | exact HB.out | apply bQA | apply bQN | apply bQ1 | refine bQS ?_ GE329.out | refine bQS ?_ GE340.out) | exact HB.out))) : w.heap.size ≤ gb345)); have n8_ := Aq.mk ((by rw [hg]; exact (bQZ (by repeat (first | (with_reducible first | exact HB.out | apply bQA | apply bQN | apply bQ1 | refine bQS ?_ GE329.out | refine bQS ?_ GE340.out) | exact HB.out))) : w.heap.size ≤ gb345)); have n9_ := Aq.mk ((by rw [hg]; exact Nat.ne_of_lt (blk_lt (g := gb329) (o := .cells #[.int .i64 a0_0, .slice A0_1 l0_1.length c0_1] 24 (0, 0)) (by (with_reducible repeat (first | refine kQN ?_ _ | refine kQD ?_ | refine kQA ?_ _)); exact BK329.out)) : gb329 ≠ gb345)); have n10_ := Aq.mk ((by rw [hg]; exact Nat.ne_of_gt (blk_lt (g := gb329) (o := .cells #[.int .i64 a0_0, .slice A0_1 l0_1.length c0_1] 24 (0, 0)) (by (with_reducible repeat (first | refine kQN ?_ _ | refine kQD ?_ | refine kQA ?_ _)); exact BK329.out)) : gb345 ≠ gb329)); have n11_ := Aq.mk ((by rw [hg]; exact Nat.ne_of_lt (blk_lt (g := gb340) (o := .cells #[.int .i64 t335, .slice Ao22 t336.length co22] 26 (0, 0)) (by (with_reducible repeat (first | refine kQN ?_ _ | refine kQD ?_ | refine kQA ?_ _)); exact BK340.out)) : gb340 ≠ gb345)); have n12_ := Aq.mk ((by rw [hg]; exact Nat.ne_of_gt (blk_lt (g := gb340) (o := .cells #[.int .i64 t335, .slice Ao22 t336.length co22] 26 (0, 0)) (by (with_reducible repeat (first | refine kQN ?_ _ | refine kQD ?_ | refine kQA ?_ _)); exact BK340.out)) : gb345 ≠ gb340)); clear HO334; clear HO338; clear HO344; clear BK329; clear BK340; clear HB; have HO334 := n0_; have HO338 := n1_; have HO344 := n2_; have BK329 := n3_; have BK340 := n4_; have HB := n5_; have BK345 := n6_; have GW345 := n7_; have GE345 := n8_; have NB329_345 := n9_; have NB345_329 := n10_; have NB340_345 := n11_; have NB345_340 := n12_; clear n0_ n1_ n2_ n3_ n4_ n5_ n6_ n7_ n8_ n9_ n10_ n11_ n12_; clear hb hbox hg; have hnb26 := NB345_329.out; have hnc26 := NB329_345.out; have hnb27 := NB345_340.out; have hnc27 := NB340_345.out; have hcz28_0 : w25.cell? ⟨gb345, 0, none⟩ = some (.int .i64 0) := (kQC BK345.out 0).trans rfl; have hcz28_1 : w25.cell? ⟨gb345, 1, none⟩ = some (.slice none 0 0) := (kQC BK345.out 1).trans rfl; have hfz28_0 := kQF BK345.out 0; have hfz28_1 := kQF BK345.out 1; obtain ⟨Ao29, co29, eo29⟩ := Kd.R_slice HO344.out; subst eo29) | ((with_reducible refine gate_store (t := 26) (p := 6) rfl ?_); refine store_event (t := 26) (p := 6) (v := ?vo_w30) (w1 := ((w25.setCell ⟨gb345, 0, none⟩ (.int .i64 t341)).setCell ⟨gb345, 1, none⟩ (.slice Ao29 t342.length co29))) ?hg ?ho ?hn ?hr ?_; (case ho => rfl); (case hg => rfl); (case hn => rfl); (case hr => first | (go_simp; done) | (go_simp; rfl)); intro w30 hw; have n0_ : Aq (Kd.R (Kd.int .i64) 2 w30 w.heap.size (fun k_ => some k_ ≠ (.slice Ao22 t336.length co22 : Value).ownBlock ∧ some k_ ≠ (.slice Ao29 t342.length co29 : Value).ownBlock) (.slice Ao17 t332.length co17) t332) := ⟨(by rw [hw]; exact (by (with_reducible repeat (first | apply Kd.RqA | apply Kd.RqN | apply Kd.RqD)); exact Kd.R_mono (Kd.R_far (p := ⟨gb345, 1, none⟩) (Kd.R_far (p := ⟨gb345, 0, none⟩) (Kd.R_types HO334.out BK345.out (by decide)) (fun _ hk => hk.2) (.int .i64 t341)) (fun _ hk => hk.2) (.slice Ao29 t342.length co29)) (fun _ hk => ⟨hk.1.1.2, hk.1.2⟩)))⟩; have n1_ : Aq (Kd.R (Kd.int .i64) 2 w30 w.heap.size (fun k_ => some k_ ≠ (.slice Ao17 t332.length co17 : Value).ownBlock ∧ some k_ ≠ (.slice Ao29 t342.length co29 : Value).ownBlock) (.slice Ao22 t336.length co22) t336) := ⟨(by rw [hw]; exact (by (with_reducible repeat (first | apply Kd.RqA | apply Kd.RqN | apply Kd.RqD)); exact Kd.R_mono (Kd.R_far (p := ⟨gb345, 1, none⟩) (Kd.R_far (p := ⟨gb345, 0, none⟩) (Kd.R_types HO338.out BK345.out (by decide)) (fun _ hk => hk.2) (.int .i64 t341)) (fun _ hk => hk.2) (.slice Ao29 t342.length co29)) (fun _ hk => ⟨hk.1.1.2, hk.1.2⟩)))⟩; have n2_ : Aq (Kd.R (Kd.int .i64) 2 w30 w.heap.size (fun k_ => some k_ ≠ (.slice Ao17 t332.length co17 : Value).ownBlock ∧ some k_ ≠ (.slice Ao22 t336.length co22 : Value).ownBlock) (.slice Ao29 t342.length co29) t342) := ⟨(by rw [hw]; exact (by (with_reducible repeat (first | apply Kd.RqA | apply Kd.RqN | apply Kd.RqD)); exact Kd.R_mono (Kd.R_far (p := ⟨gb345, 1, none⟩) (Kd.R_far (p := ⟨gb345, 0, none⟩) (Kd.R_types HO344.out BK345.out (by decide)) (fun _ hk => hk.2) (.int .i64 t341)) (fun _ hk => hk.2) (.slice Ao29 t342.length co29)) (fun _ hk => ⟨hk.1.1.2, hk.1.2⟩)))⟩; have n3_ : Aq (w30.heap[gb329]? = some (.cells #[.int .i64 a0_0, .slice A0_1 l0_1.length c0_1] 24 (0, 0))) := ⟨(by rw [hw]; exact (by (with_reducible repeat (first | refine kQN ?_ _ | refine kQD ?_ | refine kQA ?_ _)); refine kQR ?_ NB329_345.out _; (with_reducible repeat (first | refine kQN ?_ _ | refine kQD ?_ | refine kQA ?_ _)); refine kQR ?_ NB329_345.out _; (with_reducible repeat (first | refine kQN ?_ _ | refine kQD ?_ | refine kQA ?_ _)); exact BK329.out))⟩; have n4_ : Aq (w30.heap[gb340]? = some (.cells #[.int .i64 t335, .slice Ao22 t336.length co22] 26 (0, 0))) := ⟨(by rw [hw]; exact (by (with_reducible repeat (first | refine kQN ?_ _ | refine kQD ?_ | refine kQA ?_ _)); refine kQR ?_ NB340_345.out _; (with_reducible repeat (first | refine kQN ?_ _ | refine kQD ?_ | refine kQA ?_ _)); refine kQR ?_ NB340_345.out _; (with_reducible repeat (first | refine kQN ?_ _ | refine kQD ?_ | refine kQA ?_ _)); exact BK340.out))⟩; have n5_ : Aq (w30.heap[gb345]? = some (.cells #[.int .i64 t341, .slice Ao29 t342.length co29] 26 (0, 0))) := ⟨(by rw [hw]; exact (by (with_reducible repeat (first | refine kQN ?_ _ | refine kQD ?_ | refine kQA ?_ _)); refine kQP (cs := #[.int .i64 t341, .slice none 0 0]) ?_ 1 _ rfl; (with_reducible repeat (first | refine kQN ?_ _ | refine kQD ?_ | refine kQA ?_ _)); refine kQP (cs := #[.int .i64 0, .slice none 0 0]) ?_ 0 _ rfl; (with_reducible repeat (first | refine kQN ?_ _ | refine kQD ?_ | refine kQA ?_ _)); exact BK345.out))⟩; have n6_ : Aq (Below w.heap.size w w30) := ⟨(by rw [hw]; exact (by repeat (first | (with_reducible first | exact HB.out | apply bQA | apply bQN | apply bQ1 | refine bQS ?_ GE329.out | refine bQS ?_ GE340.out | refine bQS ?_ GE345.out) | exact HB.out)))⟩; clear hw; clear HO334; clear HO338; clear HO344; clear BK329; clear BK340; clear BK345; clear HB; have HO334 := n0_; have HO338 := n1_; have HO344 := n2_; have BK329 := n3_; have BK340 := n4_; have BK345 := n5_; have HB := n6_; clear n0_ n1_ n2_ n3_ n4_ n5_ n6_; have hcz31_0 : w30.cell? ⟨gb345, 0, none⟩ = some (.int .i64 t341) := (kQC BK345.out 0).trans rfl; have hcz31_1 : w30.cell? ⟨gb345, 1, none⟩ = some (.slice Ao29 t342.length co29) := (kQC BK345.out 1).trans rfl; have hfz31_0 := kQF BK345.out 0; have hfz31_1 := kQF BK345.out 1) | ((with_reducible refine gQc (f := 23) rfl ?_); refine goesL_ (some 29) rfl rfl Try.func23 (by kernel_rfl) rfl #[.agg #[.int .i64 t341, .slice Ao29 t342.length co29]] rfl (by (try simp only [List.map_toArray, List.map_cons, List.map_nil]); first | done | rfl | (simp only [List.length_drop, List.length_take]; rfl)) ?_; (with_reducible refine (impl_InverseMatrix.calls k t341 (fun k_ => some k_ = (.slice Ao29 t342.length co29 : Value).ownBlock) _ _ t342 t346 t347 t350 _ ?side1 A10.out).mono ?_); (case side1 => exact Kd.R_V (Kd.R_tight rfl (Kd.R_types (Kd.R_types (Kd.R_types (HO344.out) BK329.out (by decide)) BK340.out (by decide)) BK345.out (by decide)))); rintro e w32 ⟨v348, rfl, ho0, hb⟩; refine ⟨_, rfl, ?_⟩; have n0_ := Aq.mk (Kd.R_elder' (by (with_reducible repeat (first | apply Kd.RqA | apply Kd.RqN | apply Kd.RqD)); exact HO334.out) (Kd.R_base ho0) hb); have n1_ := Aq.mk (Kd.R_elder' (by (with_reducible repeat (first | apply Kd.RqA | apply Kd.RqN | apply Kd.RqD)); exact HO338.out) (Kd.R_base ho0) hb); have n2_ := Aq.mk (Kd.R_elder' (by (with_reducible repeat (first | apply Kd.RqA | apply Kd.RqN | apply Kd.RqD)); exact HO344.out) (Kd.R_base ho0) hb); have n3_ := Aq.mk (Kd.R_lower (Kd.R_new' (Kd.R_new' (Kd.R_new' (Kd.R_mono (ok' := fun k_ => True) ho0 (fun _ hk_ => trivial)) (Kd.R_lt (by (with_reducible repeat (first | apply Kd.RqA | apply Kd.RqN | apply Kd.RqD)); exact HO334.out))) (Kd.R_lt (by (with_reducible repeat (first | apply Kd.RqA | apply Kd.RqN | apply Kd.RqD)); exact HO338.out))) (Kd.R_lt (by (with_reducible repeat (first | apply Kd.RqA | apply Kd.RqN | apply Kd.RqD)); exact HO344.out))) (bQZ (by repeat (first | (with_reducible first | exact HB.out | apply bQA | apply bQN | apply bQ1 | refine bQS ?_ GE329.out | refine bQS ?_ GE340.out | refine bQS ?_ GE345.out) | exact HB.out)))); have n4_ := Aq.mk (kQB (g := gb329) (o := .cells #[.int .i64 a0_0, .slice A0_1 l0_1.length c0_1] 24 (0, 0)) (by (with_reducible repeat (first | refine kQN ?_ _ | refine kQD ?_ | refine kQA ?_ _)); exact BK329.out) hb); have n5_ := Aq.mk (kQB (g := gb340) (o := .cells #[.int .i64 t335, .slice Ao22 t336.length co22] 26 (0, 0)) (by (with_reducible repeat (first | refine kQN ?_ _ | refine kQD ?_ | refine kQA ?_ _)); exact BK340.out) hb); have n6_ := Aq.mk (kQB (g := gb345) (o := .cells #[.int .i64 t341, .slice Ao29 t342.length co29] 26 (0, 0)) (by (with_reducible repeat (first | refine kQN ?_ _ | refine kQD ?_ | refine kQA ?_ _)); exact BK345.out) hb); have n7_ := Aq.mk (bQT (by repeat (first | (with_reducible first | exact HB.out | apply bQA | apply bQN | apply bQ1 | refine bQS ?_ GE329.out | refine bQS ?_ GE340.out | refine bQS ?_ GE345.out) | exact HB.out)) hb); clear HO334; clear HO338; clear HO344; clear BK329; clear BK340; clear BK345; clear HB; have HO334 := n0_; have HO338 := n1_; have HO344 := n2_; have HO349 := n3_; have BK329 := n4_; have BK340 := n5_; have BK345 := n6_; have HB := n7_; clear n0_ n1_ n2_ n3_ n4_ n5_ n6_ n7_; (try clear hb); (try clear hb2); (try clear hk); (try clear hi); (try clear ho0)) | ((with_reducible refine gQd (N := 7) rfl ?_); refine xQe ?hg (N := 7) ?hd (cs := #[.int .i64 0, .slice none 0 0]) (t := 26) ?hr ?_; (case hd => rfl); (case hg => rfl); (case hr => first | (go_simp; done) | (go_simp; rfl)); intro gb351 hg w33 hbox hb; have n0_ := Aq.mk (Kd.R_below (by (with_reducible repeat (first | apply Kd.RqA | apply Kd.RqN | apply Kd.RqD)); exact HO334.out) hb); have n1_ := Aq.mk (Kd.R_below (by (with_reducible repeat (first | apply Kd.RqA | apply Kd.RqN | apply Kd.RqD)); exact HO338.out) hb); have n2_ := Aq.mk (Kd.R_below (by (with_reducible repeat (first | apply Kd.RqA | apply Kd.RqN | apply Kd.RqD)); exact HO344.out) hb); have n3_ := Aq.mk (Kd.R_below (by (with_reducible repeat (first | apply Kd.RqA | apply Kd.RqN | apply Kd.RqD)); exact HO349.out) hb); have n4_ := Aq.mk (kQB (g := gb329) (o := .cells #[.int .i64 a0_0, .slice A0_1 l0_1.length c0_1] 24 (0, 0)) (by (with_reducible repeat (first | refine kQN ?_ _ | refine kQD ?_ | refine kQA ?_ _)); exact BK329.out) hb); have n5_ := Aq.mk (kQB (g := gb340) (o := .cells #[.int .i64 t335, .slice Ao22 t336.length co22] 26 (0, 0)) (by (with_reducible repeat (first | refine kQN ?_ _ | refine kQD ?_ | refine kQA ?_ _)); exact BK340.out) hb); have n6_ := Aq.mk (kQB (g := gb345) (o := .cells #[.int .i64 t341, .slice Ao29 t342.length co29] 26 (0, 0)) (by (with_reducible repeat (first | refine kQN ?_ _ | refine kQD ?_ | refine kQA ?_ _)); exact BK345.out) hb); have n7_ := Aq.mk (bQT (by repeat (first | (with_reducible first | exact HB.out | apply bQA | apply bQN | apply bQ1 | refine bQS ?_ GE329.out | refine bQS ?_ GE340.out | refine bQS ?_ GE345.out) | exact HB.out)) hb); have n8_ := Aq.mk (hbox); have n9_ := Aq.mk ((by rw [hg]; exact (bQZ (by repeat (first | (with_reducible first | exact HB.out | apply bQA | apply bQN | apply bQ1 | refine bQS ?_ GE329.out | refine bQS ?_ GE340.out | refine bQS ?_ GE345.out) | exact HB.out))) : w.heap.size ≤ gb351)); have n10_ := Aq.mk ((by rw [hg]; exact (bQZ (by repeat (first | (with_reducible first | exact HB.out | apply bQA | apply bQN | apply bQ1 | refine bQS ?_ GE329.out | refine bQS ?_ GE340.out | refine bQS ?_ GE345.out) | exact HB.out))) : w.heap.size ≤ gb351)); have n11_ := Aq.mk ((by rw [hg]; exact Nat.ne_of_lt (blk_lt (g := gb329) (o := .cells #[.int .i64 a0_0, .slice A0_1 l0_1.length c0_1] 24 (0, 0)) (by (with_reducible repeat (first | refine kQN ?_ _ | refine kQD ?_ | refine kQA ?_ _)); exact BK329.out)) : gb329 ≠ gb351)); have n12_ := Aq.mk ((by rw [hg]; exact Nat.ne_of_gt (blk_lt (g := gb329) (o := .cells #[.int .i64 a0_0, .slice A0_1 l0_1.length c0_1] 24 (0, 0)) (by (with_reducible repeat (first | refine kQN ?_ _ | refine kQD ?_ | refine kQA ?_ _)); exact BK329.out)) : gb351 ≠ gb329)); have n13_ := Aq.mk ((by rw [hg]; exact Nat.ne_of_lt (blk_lt (g := gb340) (o := .cells #[.int .i64 t335, .slice Ao22 t336.length co22] 26 (0, 0)) (by (with_reducible repeat (first | refine kQN ?_ _ | refine kQD ?_ | refine kQA ?_ _)); exact BK340.out)) : gb340 ≠ gb351)); have n14_ := Aq.mk ((by rw [hg]; exact Nat.ne_of_gt (blk_lt (g := gb340) (o := .cells #[.int .i64 t335, .slice Ao22 t336.length co22] 26 (0, 0)) (by (with_reducible repeat (first | refine kQN ?_ _ | refine kQD ?_ | refine kQA ?_ _)); exact BK340.out)) : gb351 ≠ gb340)); have n15_ := Aq.mk ((by rw [hg]; exact Nat.ne_of_lt (blk_lt (g := gb345) (o := .cells #[.int .i64 t341, .slice Ao29 t342.length co29] 26 (0, 0)) (by (with_reducible repeat (first | refine kQN ?_ _ | refine kQD ?_ | refine kQA ?_ _)); exact BK345.out)) : gb345 ≠ gb351)); have n16_ := Aq.mk ((by rw [hg]; exact Nat.ne_of_gt (blk_lt (g := gb345) (o := .cells #[.int .i64 t341, .slice Ao29 t342.length co29] 26 (0, 0)) (by (with_reducible repeat (first | refine kQN ?_ _ | refine kQD ?_ | refine kQA ?_ _)); exact BK345.out)) : gb351 ≠ gb345)); clear HO334; clear HO338; clear HO344; clear HO349; clear BK329; clear BK340; clear BK345; clear HB; have HO334 := n0_; have HO338 := n1_; have HO344 := n2_; have HO349 := n3_; have BK329 := n4_; have BK340 := n5_; have BK345 := n6_; have HB := n7_; have BK351 := n8_; have GW351 := n9_; have GE351 := n10_; have NB329_351 := n11_; have NB351_329 := n12_; have NB340_351 := n13_; have NB351_340 := n14_; have NB345_351 := n15_; have NB351_345 := n16_; clear n0_ n1_ n2_ n3_ n4_ n5_ n6_ n7_ n8_ n9_ n10_ n11_ n12_ n13_ n14_ n15_ n16_; clear hb hbox hg; have hnb34 := NB351_329.out; have hnc34 := NB329_351.out; have hnb35 := NB351_340.out; have hnc35 := NB340_351.out; have hnb36 := NB351_345.out; have hnc36 := NB345_351.out; have hcz37_0 : w33.cell? ⟨gb351, 0, none⟩ = some (.int .i64 0) := (kQC BK351.out 0).trans rfl; have hcz37_1 : w33.cell? ⟨gb351, 1, none⟩ = some (.slice none 0 0) := (kQC BK351.out 1).trans rfl; have hfz37_0 := kQF BK351.out 0; have hfz37_1 := kQF BK351.out 1; obtain ⟨Ao38, co38, eo38⟩ := Kd.R_slice HO349.out; subst eo38))
  (try simp only [Act.put, qSa, qSb, qSc])
  go_cut [40] (fun v40 wc => ∃ (kq : Nat) (x40_10 : Bool), v40 = .bool x40_10 ∧ Aq (laws_FnExactInverseMatrix.j0 kq t339 t350 x40_10 a0_0 l0_1 t335 t336 t341 t342 t346 t347 = some r) ∧ Aq (kq ≤ k) ∧ Aq (Kd.R (Kd.int .i64) 2 wc w.heap.size (fun k_ => some k_ ≠ ((.slice Ao29 t342.length co29) : Value).ownBlock ∧ some k_ ≠ ((.slice Ao38 t347.length co38) : Value).ownBlock) (.slice Ao22 t336.length co22) t336) ∧ Aq (Kd.R (Kd.int .i64) 2 wc w.heap.size (fun k_ => some k_ ≠ ((.slice Ao22 t336.length co22) : Value).ownBlock ∧ some k_ ≠ ((.slice Ao38 t347.length co38) : Value).ownBlock) (.slice Ao29 t342.length co29) t342) ∧ Aq (Kd.R (Kd.int .i64) 2 wc w.heap.size (fun k_ => some k_ ≠ ((.slice Ao22 t336.length co22) : Value).ownBlock ∧ some k_ ≠ ((.slice Ao29 t342.length co29) : Value).ownBlock) (.slice Ao38 t347.length co38) t347) ∧ Aq (wc.heap[gb329]? = some (.cells #[.int .i64 a0_0, (.slice A0_1 l0_1.length c0_1)] 24 (0, 0))) ∧ Aq (wc.heap[gb340]? = some (.cells #[.int .i64 t335, (.slice Ao22 t336.length co22)] 26 (0, 0))) ∧ Aq (wc.heap[gb345]? = some (.cells #[.int .i64 t341, (.slice Ao29 t342.length co29)] 26 (0, 0))) ∧ Aq (wc.heap[gb351]? = some (.cells #[.int .i64 t346, (.slice Ao38 t347.length co38)] 26 (0, 0))) ∧ Aq (Below w.heap.size w wc))
  case first =>
   have H := HC11.out
   clear HC11
   replace H := Option.bind_eq_some_iff.mp H
   obtain ⟨t352, A390, H⟩ := H
   replace H : (if t352 = true then (laws_FnExactInverseMatrix.j0 k t339 t350 (t350 != t339) a0_0 l0_1 t335 t336 t341 t342 t346 t347) else (laws_FnExactInverseMatrix.j0 k t339 t350 true a0_0 l0_1 t335 t336 t341 t342 t346 t347)) = some r := H
   have A39 := Aq.mk A390
   clear A390
   by_cases c40 : t352 = true
   ·subst c40
    have H1 : (laws_FnExactInverseMatrix.j0 k t339 t350 (t350 != t339) a0_0 l0_1 t335 t336 t341 t342 t346 t347) = some r := by rw [if_pos rfl] at H; exact H
    clear H
    have H := H1
    clear H1
    have H' := Aq.mk H
    clear H
    have hnb41 := NB351_329.out
    have hnc41 := NB329_351.out
    have hnb42 := NB351_340.out
    have hnc42 := NB340_351.out
    have hnb43 := NB351_345.out
    have hnc43 := NB345_351.out
    have hcz44_0 : w33.cell? ⟨gb351, 0, none⟩ = some (.int .i64 0) := (kQC BK351.out 0).trans rfl
    have hcz44_1 : w33.cell? ⟨gb351, 1, none⟩ = some (.slice none 0 0) := (kQC BK351.out 1).trans rfl
    have hfz44_0 := kQF BK351.out 0
    have hfz44_1 := kQF BK351.out 1
    have hnb45 := NB340_329.out
    have hnc45 := NB329_340.out
    have hnb46 := NB340_345.out
    have hnc46 := NB345_340.out
    have hcz47_0 : w33.cell? ⟨gb340, 0, none⟩ = some (.int .i64 t335) := (kQC BK340.out 0).trans rfl
    have hcz47_1 : w33.cell? ⟨gb340, 1, none⟩ = some (.slice Ao22 t336.length co22) := (kQC BK340.out 1).trans rfl
    have hfz47_0 := kQF BK340.out 0
    have hfz47_1 := kQF BK340.out 1
    go_wp2_with (first | ((with_reducible refine gQc (f := 19) rfl ?_); refine goesL_ (some 34) rfl rfl Try.func19 (by kernel_rfl) rfl #[.agg #[.int .i64 t346, .slice Ao38 t347.length co38], .agg #[.int .i64 t335, .slice Ao22 t336.length co22]] rfl (by (try simp only [List.map_toArray, List.map_cons, List.map_nil]); first | done | rfl | (simp only [List.length_drop, List.length_take]; rfl)) ?_; (with_reducible refine (laws_eqMatrix.calls k t346 _ _ t347 t335 _ _ t336 true _ ?side1 ?side2 ?side3 ?side4 A39.out).mono ?_); (case side1 => refine (Kd.R_reads' (e := 2) (base := w.heap.size) (ok := fun k_ => (((True ∧ some k_ ≠ (.slice Ao17 t332.length co17 : Value).ownBlock) ∧ some k_ ≠ (.slice Ao22 t336.length co22 : Value).ownBlock) ∧ some k_ ≠ (.slice Ao29 t342.length co29 : Value).ownBlock)) (n := t347.length) (c := co38) ?_).2.2; exact (by (with_reducible repeat (first | apply Kd.RqA | apply Kd.RqN | apply Kd.RqD)); exact (Kd.R_mono (Kd.R_far (p := ⟨gb351, 1, none⟩) (Kd.R_far (p := ⟨gb351, 0, none⟩) (Kd.R_types HO349.out BK351.out (by decide)) (fun _ hk => hk.2) (.int .i64 t346)) (fun _ hk => hk.2) (.slice Ao38 t347.length co38)) (fun _ h_ => h_.1)))); (case side2 => exact (Kd.R_reads' HO349.out).2.1); (case side3 => refine (Kd.R_reads' (e := 2) (base := w.heap.size) (ok := fun k_ => ((some k_ ≠ (.slice Ao17 t332.length co17 : Value).ownBlock ∧ some k_ ≠ (.slice Ao29 t342.length co29 : Value).ownBlock) ∧ some k_ ≠ (.slice Ao38 t347.length co38 : Value).ownBlock)) (n := t336.length) (c := co22) ?_).2.2; exact (by (with_reducible repeat (first | apply Kd.RqA | apply Kd.RqN | apply Kd.RqD)); exact (Kd.R_mono (Kd.R_far (p := ⟨gb351, 1, none⟩) (Kd.R_far (p := ⟨gb351, 0, none⟩) (Kd.R_types HO338.out BK351.out (by decide)) (fun _ hk => hk.2) (.int .i64 t346)) (fun _ hk => hk.2) (.slice Ao38 t347.length co38)) (fun _ h_ => h_.1)))); (case side4 => exact (Kd.R_reads' HO338.out).2.1); rintro e w48 ⟨rfl, hb⟩; refine ⟨_, rfl, ?_⟩; have n0_ := Aq.mk (Kd.R_below (by (with_reducible repeat (first | apply Kd.RqA | apply Kd.RqN | apply Kd.RqD)); exact (Kd.R_mono (Kd.R_far (p := ⟨gb351, 1, none⟩) (Kd.R_far (p := ⟨gb351, 0, none⟩) (Kd.R_types HO334.out BK351.out (by decide)) (fun _ hk => hk.2) (.int .i64 t346)) (fun _ hk => hk.2) (.slice Ao38 t347.length co38)) (fun _ h_ => h_.1))) hb); have n1_ := Aq.mk (Kd.R_below (by (with_reducible repeat (first | apply Kd.RqA | apply Kd.RqN | apply Kd.RqD)); exact (Kd.R_mono (Kd.R_far (p := ⟨gb351, 1, none⟩) (Kd.R_far (p := ⟨gb351, 0, none⟩) (Kd.R_types HO338.out BK351.out (by decide)) (fun _ hk => hk.2) (.int .i64 t346)) (fun _ hk => hk.2) (.slice Ao38 t347.length co38)) (fun _ h_ => h_.1))) hb); have n2_ := Aq.mk (Kd.R_below (by (with_reducible repeat (first | apply Kd.RqA | apply Kd.RqN | apply Kd.RqD)); exact (Kd.R_mono (Kd.R_far (p := ⟨gb351, 1, none⟩) (Kd.R_far (p := ⟨gb351, 0, none⟩) (Kd.R_types HO344.out BK351.out (by decide)) (fun _ hk => hk.2) (.int .i64 t346)) (fun _ hk => hk.2) (.slice Ao38 t347.length co38)) (fun _ h_ => h_.1))) hb); have n3_ := Aq.mk (Kd.R_below (by (with_reducible repeat (first | apply Kd.RqA | apply Kd.RqN | apply Kd.RqD)); exact (Kd.R_mono (Kd.R_far (p := ⟨gb351, 1, none⟩) (Kd.R_far (p := ⟨gb351, 0, none⟩) (Kd.R_types HO349.out BK351.out (by decide)) (fun _ hk => hk.2) (.int .i64 t346)) (fun _ hk => hk.2) (.slice Ao38 t347.length co38)) (fun _ h_ => h_.1))) hb); have n4_ := Aq.mk (kQB (g := gb329) (o := .cells #[.int .i64 a0_0, .slice A0_1 l0_1.length c0_1] 24 (0, 0)) (by (with_reducible repeat (first | refine kQN ?_ _ | refine kQD ?_ | refine kQA ?_ _)); refine kQR ?_ NB329_351.out _; (with_reducible repeat (first | refine kQN ?_ _ | refine kQD ?_ | refine kQA ?_ _)); refine kQR ?_ NB329_351.out _; (with_reducible repeat (first | refine kQN ?_ _ | refine kQD ?_ | refine kQA ?_ _)); exact BK329.out) hb); have n5_ := Aq.mk (kQB (g := gb340) (o := .cells #[.int .i64 t335, .slice Ao22 t336.length co22] 26 (0, 0)) (by (with_reducible repeat (first | refine kQN ?_ _ | refine kQD ?_ | refine kQA ?_ _)); refine kQR ?_ NB340_351.out _; (with_reducible repeat (first | refine kQN ?_ _ | refine kQD ?_ | refine kQA ?_ _)); refine kQR ?_ NB340_351.out _; (with_reducible repeat (first | refine kQN ?_ _ | refine kQD ?_ | refine kQA ?_ _)); exact BK340.out) hb); have n6_ := Aq.mk (kQB (g := gb345) (o := .cells #[.int .i64 t341, .slice Ao29 t342.length co29] 26 (0, 0)) (by (with_reducible repeat (first | refine kQN ?_ _ | refine kQD ?_ | refine kQA ?_ _)); refine kQR ?_ NB345_351.out _; (with_reducible repeat (first | refine kQN ?_ _ | refine kQD ?_ | refine kQA ?_ _)); refine kQR ?_ NB345_351.out _; (with_reducible repeat (first | refine kQN ?_ _ | refine kQD ?_ | refine kQA ?_ _)); exact BK345.out) hb); have n7_ := Aq.mk (kQB (g := gb351) (o := .cells #[.int .i64 t346, .slice Ao38 t347.length co38] 26 (0, 0)) (by (with_reducible repeat (first | refine kQN ?_ _ | refine kQD ?_ | refine kQA ?_ _)); refine kQP (cs := #[.int .i64 t346, .slice none 0 0]) ?_ 1 _ rfl; (with_reducible repeat (first | refine kQN ?_ _ | refine kQD ?_ | refine kQA ?_ _)); refine kQP (cs := #[.int .i64 0, .slice none 0 0]) ?_ 0 _ rfl; (with_reducible repeat (first | refine kQN ?_ _ | refine kQD ?_ | refine kQA ?_ _)); exact BK351.out) hb); have n8_ := Aq.mk (bQT (by repeat (first | (with_reducible first | exact HB.out | apply bQA | apply bQN | apply bQ1 | refine bQS ?_ GE329.out | refine bQS ?_ GE340.out | refine bQS ?_ GE345.out | refine bQS ?_ GE351.out) | exact HB.out)) hb); clear HO334; clear HO338; clear HO344; clear HO349; clear BK329; clear BK340; clear BK345; clear BK351; clear HB; have HO334 := n0_; have HO338 := n1_; have HO344 := n2_; have HO349 := n3_; have BK329 := n4_; have BK340 := n5_; have BK345 := n6_; have BK351 := n7_; have HB := n8_; clear n0_ n1_ n2_ n3_ n4_ n5_ n6_ n7_ n8_; (try clear hb); (try clear hb2); (try clear hk); (try clear hi)))
    go_meet
    case rel => exact ⟨_, ((t350 != t339)), (by first | rfl | (simp; done) | (simp [*]; done)), H', ⟨by first | omega | exact Nat.le_refl _⟩, ⟨by (with_reducible repeat (first | apply Kd.RqA | apply Kd.RqN | apply Kd.RqD)); exact Kd.R_mono HO338.out (fun _ hk => ⟨hk.1.2, hk.2⟩)⟩, ⟨by (with_reducible repeat (first | apply Kd.RqA | apply Kd.RqN | apply Kd.RqD)); exact Kd.R_mono HO344.out (fun _ hk => ⟨hk.1.2, hk.2⟩)⟩, ⟨by (with_reducible repeat (first | apply Kd.RqA | apply Kd.RqN | apply Kd.RqD)); exact Kd.R_mono HO349.out (fun _ hk => ⟨hk.1.2, hk.2⟩)⟩, ⟨by (with_reducible repeat (first | refine kQN ?_ _ | refine kQD ?_ | refine kQA ?_ _)); exact BK329.out⟩, ⟨by (with_reducible repeat (first | refine kQN ?_ _ | refine kQD ?_ | refine kQA ?_ _)); exact BK340.out⟩, ⟨by (with_reducible repeat (first | refine kQN ?_ _ | refine kQD ?_ | refine kQA ?_ _)); exact BK345.out⟩, ⟨by (with_reducible repeat (first | refine kQN ?_ _ | refine kQD ?_ | refine kQA ?_ _)); exact BK351.out⟩, ⟨by repeat (first | (with_reducible first | exact HB.out | apply bQA | apply bQN | apply bQ1 | refine bQS ?_ GE329.out | refine bQS ?_ GE340.out | refine bQS ?_ GE345.out | refine bQS ?_ GE351.out) | exact HB.out)⟩⟩
   ·replace c40 := Bool.eq_false_iff.mpr c40
    subst c40
    have H1 : (laws_FnExactInverseMatrix.j0 k t339 t350 true a0_0 l0_1 t335 t336 t341 t342 t346 t347) = some r := by rw [if_neg (show ¬ (false = true) by decide)] at H; exact H
    clear H
    have H := H1
    clear H1
    have H' := Aq.mk H
    clear H
    have hnb49 := NB351_329.out
    have hnc49 := NB329_351.out
    have hnb50 := NB351_340.out
    have hnc50 := NB340_351.out
    have hnb51 := NB351_345.out
    have hnc51 := NB345_351.out
    have hcz52_0 : w33.cell? ⟨gb351, 0, none⟩ = some (.int .i64 0) := (kQC BK351.out 0).trans rfl
    have hcz52_1 : w33.cell? ⟨gb351, 1, none⟩ = some (.slice none 0 0) := (kQC BK351.out 1).trans rfl
    have hfz52_0 := kQF BK351.out 0
    have hfz52_1 := kQF BK351.out 1
    have hnb53 := NB340_329.out
    have hnc53 := NB329_340.out
    have hnb54 := NB340_345.out
    have hnc54 := NB345_340.out
    have hcz55_0 : w33.cell? ⟨gb340, 0, none⟩ = some (.int .i64 t335) := (kQC BK340.out 0).trans rfl
    have hcz55_1 : w33.cell? ⟨gb340, 1, none⟩ = some (.slice Ao22 t336.length co22) := (kQC BK340.out 1).trans rfl
    have hfz55_0 := kQF BK340.out 0
    have hfz55_1 := kQF BK340.out 1
    go_wp2_with (first | ((with_reducible refine gQc (f := 19) rfl ?_); refine goesL_ (some 34) rfl rfl Try.func19 (by kernel_rfl) rfl #[.agg #[.int .i64 t346, .slice Ao38 t347.length co38], .agg #[.int .i64 t335, .slice Ao22 t336.length co22]] rfl (by (try simp only [List.map_toArray, List.map_cons, List.map_nil]); first | done | rfl | (simp only [List.length_drop, List.length_take]; rfl)) ?_; (with_reducible refine (laws_eqMatrix.calls k t346 _ _ t347 t335 _ _ t336 false _ ?side1 ?side2 ?side3 ?side4 A39.out).mono ?_); (case side1 => refine (Kd.R_reads' (e := 2) (base := w.heap.size) (ok := fun k_ => (((True ∧ some k_ ≠ (.slice Ao17 t332.length co17 : Value).ownBlock) ∧ some k_ ≠ (.slice Ao22 t336.length co22 : Value).ownBlock) ∧ some k_ ≠ (.slice Ao29 t342.length co29 : Value).ownBlock)) (n := t347.length) (c := co38) ?_).2.2; exact (by (with_reducible repeat (first | apply Kd.RqA | apply Kd.RqN | apply Kd.RqD)); exact (Kd.R_mono (Kd.R_far (p := ⟨gb351, 1, none⟩) (Kd.R_far (p := ⟨gb351, 0, none⟩) (Kd.R_types HO349.out BK351.out (by decide)) (fun _ hk => hk.2) (.int .i64 t346)) (fun _ hk => hk.2) (.slice Ao38 t347.length co38)) (fun _ h_ => h_.1)))); (case side2 => exact (Kd.R_reads' HO349.out).2.1); (case side3 => refine (Kd.R_reads' (e := 2) (base := w.heap.size) (ok := fun k_ => ((some k_ ≠ (.slice Ao17 t332.length co17 : Value).ownBlock ∧ some k_ ≠ (.slice Ao29 t342.length co29 : Value).ownBlock) ∧ some k_ ≠ (.slice Ao38 t347.length co38 : Value).ownBlock)) (n := t336.length) (c := co22) ?_).2.2; exact (by (with_reducible repeat (first | apply Kd.RqA | apply Kd.RqN | apply Kd.RqD)); exact (Kd.R_mono (Kd.R_far (p := ⟨gb351, 1, none⟩) (Kd.R_far (p := ⟨gb351, 0, none⟩) (Kd.R_types HO338.out BK351.out (by decide)) (fun _ hk => hk.2) (.int .i64 t346)) (fun _ hk => hk.2) (.slice Ao38 t347.length co38)) (fun _ h_ => h_.1)))); (case side4 => exact (Kd.R_reads' HO338.out).2.1); rintro e w56 ⟨rfl, hb⟩; refine ⟨_, rfl, ?_⟩; have n0_ := Aq.mk (Kd.R_below (by (with_reducible repeat (first | apply Kd.RqA | apply Kd.RqN | apply Kd.RqD)); exact (Kd.R_mono (Kd.R_far (p := ⟨gb351, 1, none⟩) (Kd.R_far (p := ⟨gb351, 0, none⟩) (Kd.R_types HO334.out BK351.out (by decide)) (fun _ hk => hk.2) (.int .i64 t346)) (fun _ hk => hk.2) (.slice Ao38 t347.length co38)) (fun _ h_ => h_.1))) hb); have n1_ := Aq.mk (Kd.R_below (by (with_reducible repeat (first | apply Kd.RqA | apply Kd.RqN | apply Kd.RqD)); exact (Kd.R_mono (Kd.R_far (p := ⟨gb351, 1, none⟩) (Kd.R_far (p := ⟨gb351, 0, none⟩) (Kd.R_types HO338.out BK351.out (by decide)) (fun _ hk => hk.2) (.int .i64 t346)) (fun _ hk => hk.2) (.slice Ao38 t347.length co38)) (fun _ h_ => h_.1))) hb); have n2_ := Aq.mk (Kd.R_below (by (with_reducible repeat (first | apply Kd.RqA | apply Kd.RqN | apply Kd.RqD)); exact (Kd.R_mono (Kd.R_far (p := ⟨gb351, 1, none⟩) (Kd.R_far (p := ⟨gb351, 0, none⟩) (Kd.R_types HO344.out BK351.out (by decide)) (fun _ hk => hk.2) (.int .i64 t346)) (fun _ hk => hk.2) (.slice Ao38 t347.length co38)) (fun _ h_ => h_.1))) hb); have n3_ := Aq.mk (Kd.R_below (by (with_reducible repeat (first | apply Kd.RqA | apply Kd.RqN | apply Kd.RqD)); exact (Kd.R_mono (Kd.R_far (p := ⟨gb351, 1, none⟩) (Kd.R_far (p := ⟨gb351, 0, none⟩) (Kd.R_types HO349.out BK351.out (by decide)) (fun _ hk => hk.2) (.int .i64 t346)) (fun _ hk => hk.2) (.slice Ao38 t347.length co38)) (fun _ h_ => h_.1))) hb); have n4_ := Aq.mk (kQB (g := gb329) (o := .cells #[.int .i64 a0_0, .slice A0_1 l0_1.length c0_1] 24 (0, 0)) (by (with_reducible repeat (first | refine kQN ?_ _ | refine kQD ?_ | refine kQA ?_ _)); refine kQR ?_ NB329_351.out _; (with_reducible repeat (first | refine kQN ?_ _ | refine kQD ?_ | refine kQA ?_ _)); refine kQR ?_ NB329_351.out _; (with_reducible repeat (first | refine kQN ?_ _ | refine kQD ?_ | refine kQA ?_ _)); exact BK329.out) hb); have n5_ := Aq.mk (kQB (g := gb340) (o := .cells #[.int .i64 t335, .slice Ao22 t336.length co22] 26 (0, 0)) (by (with_reducible repeat (first | refine kQN ?_ _ | refine kQD ?_ | refine kQA ?_ _)); refine kQR ?_ NB340_351.out _; (with_reducible repeat (first | refine kQN ?_ _ | refine kQD ?_ | refine kQA ?_ _)); refine kQR ?_ NB340_351.out _; (with_reducible repeat (first | refine kQN ?_ _ | refine kQD ?_ | refine kQA ?_ _)); exact BK340.out) hb); have n6_ := Aq.mk (kQB (g := gb345) (o := .cells #[.int .i64 t341, .slice Ao29 t342.length co29] 26 (0, 0)) (by (with_reducible repeat (first | refine kQN ?_ _ | refine kQD ?_ | refine kQA ?_ _)); refine kQR ?_ NB345_351.out _; (with_reducible repeat (first | refine kQN ?_ _ | refine kQD ?_ | refine kQA ?_ _)); refine kQR ?_ NB345_351.out _; (with_reducible repeat (first | refine kQN ?_ _ | refine kQD ?_ | refine kQA ?_ _)); exact BK345.out) hb); have n7_ := Aq.mk (kQB (g := gb351) (o := .cells #[.int .i64 t346, .slice Ao38 t347.length co38] 26 (0, 0)) (by (with_reducible repeat (first | refine kQN ?_ _ | refine kQD ?_ | refine kQA ?_ _)); refine kQP (cs := #[.int .i64 t346, .slice none 0 0]) ?_ 1 _ rfl; (with_reducible repeat (first | refine kQN ?_ _ | refine kQD ?_ | refine kQA ?_ _)); refine kQP (cs := #[.int .i64 0, .slice none 0 0]) ?_ 0 _ rfl; (with_reducible repeat (first | refine kQN ?_ _ | refine kQD ?_ | refine kQA ?_ _)); exact BK351.out) hb); have n8_ := Aq.mk (bQT (by repeat (first | (with_reducible first | exact HB.out | apply bQA | apply bQN | apply bQ1 | refine bQS ?_ GE329.out | refine bQS ?_ GE340.out | refine bQS ?_ GE345.out | refine bQS ?_ GE351.out) | exact HB.out)) hb); clear HO334; clear HO338; clear HO344; clear HO349; clear BK329; clear BK340; clear BK345; clear BK351; clear HB; have HO334 := n0_; have HO338 := n1_; have HO344 := n2_; have HO349 := n3_; have BK329 := n4_; have BK340 := n5_; have BK345 := n6_; have BK351 := n7_; have HB := n8_; clear n0_ n1_ n2_ n3_ n4_ n5_ n6_ n7_ n8_; (try clear hb); (try clear hb2); (try clear hk); (try clear hi)))
    go_meet
    case rel => exact ⟨_, (true), (by first | rfl | (simp; done) | (simp [*]; done)), H', ⟨by first | omega | exact Nat.le_refl _⟩, ⟨by (with_reducible repeat (first | apply Kd.RqA | apply Kd.RqN | apply Kd.RqD)); exact Kd.R_mono HO338.out (fun _ hk => ⟨hk.1.2, hk.2⟩)⟩, ⟨by (with_reducible repeat (first | apply Kd.RqA | apply Kd.RqN | apply Kd.RqD)); exact Kd.R_mono HO344.out (fun _ hk => ⟨hk.1.2, hk.2⟩)⟩, ⟨by (with_reducible repeat (first | apply Kd.RqA | apply Kd.RqN | apply Kd.RqD)); exact Kd.R_mono HO349.out (fun _ hk => ⟨hk.1.2, hk.2⟩)⟩, ⟨by (with_reducible repeat (first | refine kQN ?_ _ | refine kQD ?_ | refine kQA ?_ _)); exact BK329.out⟩, ⟨by (with_reducible repeat (first | refine kQN ?_ _ | refine kQD ?_ | refine kQA ?_ _)); exact BK340.out⟩, ⟨by (with_reducible repeat (first | refine kQN ?_ _ | refine kQD ?_ | refine kQA ?_ _)); exact BK345.out⟩, ⟨by (with_reducible repeat (first | refine kQN ?_ _ | refine kQD ?_ | refine kQA ?_ _)); exact BK351.out⟩, ⟨by repeat (first | (with_reducible first | exact HB.out | apply bQA | apply bQN | apply bQ1 | refine bQS ?_ GE329.out | refine bQS ?_ GE340.out | refine bQS ?_ GE345.out | refine bQS ?_ GE351.out) | exact HB.out)⟩⟩
  case rest =>
   clear HC11
   try clear c1
   try clear c2
   try clear p2
   try clear c3
   try clear c3b0
   try clear c4
   try clear c5
   try clear c15
   try clear c17
   try clear c19
   try clear c20
   try clear c22
   try clear c23
   try clear c26
   try clear c27
   try clear c34
   try clear c35
   try clear c36
   try clear c40
   try clear c41
   try clear c42
   try clear c43
   try clear c45
   try clear c46
   try clear c49
   try clear c50
   try clear c51
   try clear c53
   try clear c54
   try clear hcz13_0
   try clear hcz13_1
   try clear hcz15_0
   try clear hcz15_1
   try clear hcz21_0
   try clear hcz21_1
   try clear hcz23_0
   try clear hcz23_1
   try clear hcz28_0
   try clear hcz28_1
   try clear hcz31_0
   try clear hcz31_1
   try clear hcz37_0
   try clear hcz37_1
   try clear hcz44_0
   try clear hcz44_1
   try clear hcz47_0
   try clear hcz47_1
   try clear hcz52_0
   try clear hcz52_1
   try clear hcz55_0
   try clear hcz55_1
   try clear hcz5_0
   try clear hcz5_1
   try clear hfz13_0
   try clear hfz13_1
   try clear hfz15_0
   try clear hfz15_1
   try clear hfz21_0
   try clear hfz21_1
   try clear hfz23_0
   try clear hfz23_1
   try clear hfz28_0
   try clear hfz28_1
   try clear hfz31_0
   try clear hfz31_1
   try clear hfz37_0
   try clear hfz37_1
   try clear hfz44_0
   try clear hfz44_1
   try clear hfz47_0
   try clear hfz47_1
   try clear hfz52_0
   try clear hfz52_1
   try clear hfz55_0
   try clear hfz55_1
   try clear hfz5_0
   try clear hfz5_1
   obtain ⟨kq, x40_10, rfl, HA, HJ10, HO_341001, HO_346001, HO_352001, BK329, BK340, BK345, BK351, HB⟩ := hcut
   cases kq with
   | zero => exact absurd HA.out (by simp [laws_FnExactInverseMatrix.j0])
   | succ kj10 =>
    have H := HA.out
    clear HA
    simp only [laws_FnExactInverseMatrix.j0] at H
    by_cases c57 : x40_10 = true
    ·subst c57
     have H1 : (some false) = some r := by rw [if_pos rfl] at H; exact H
     clear H
     have H := H1
     clear H1
     obtain rfl := Option.some.inj H
     go_wp2
     go_ret
     exact ⟨by first | rfl | (simp [errW_none, errW_some] <;> rfl) | (simp [*, errW_none, errW_some] <;> rfl), by repeat (first | (with_reducible first | exact HB.out | apply bQA | apply bQN | apply bQ1 | refine bQS ?_ GE329.out | refine bQS ?_ GE340.out | refine bQS ?_ GE345.out | refine bQS ?_ GE351.out) | exact HB.out)⟩
    ·replace c57 := Bool.eq_false_iff.mpr c57
     subst c57
     have H1 : ((laws_toMatrix.f kj10 a0_0 l0_1).bind fun bt353 => ((laws_eqMatrix.f kj10 t341 t342 bt353.1 bt353.2).bind fun t357 => (if t357 = true then ((laws_markMatrix.f kj10 t341 t342 1).bind fun bt358 => (if bt358.1 < 0 then (laws_FnExactInverseMatrix.j1 kj10 t339 true a0_0 l0_1 t335 t336 t346 t347) else ((laws_eqMatrix.f kj10 t346 t347 t335 t336).bind fun t360 => (if t360 = true then (laws_FnExactInverseMatrix.j1 kj10 t339 (t350 != t339) a0_0 l0_1 t335 t336 t346 t347) else (laws_FnExactInverseMatrix.j1 kj10 t339 true a0_0 l0_1 t335 t336 t346 t347))))) else (some false)))) = some r := by rw [if_neg (show ¬ (false = true) by decide)] at H; exact H
     clear H
     have H := H1
     clear H1
     replace H := Option.bind_eq_some_iff.mp H
     obtain ⟨⟨t353, t354⟩, A580, H⟩ := H
     replace H : ((laws_eqMatrix.f kj10 t341 t342 t353 t354).bind fun t357 => (if t357 = true then ((laws_markMatrix.f kj10 t341 t342 1).bind fun bt358 => (if bt358.1 < 0 then (laws_FnExactInverseMatrix.j1 kj10 t339 true a0_0 l0_1 t335 t336 t346 t347) else ((laws_eqMatrix.f kj10 t346 t347 t335 t336).bind fun t360 => (if t360 = true then (laws_FnExactInverseMatrix.j1 kj10 t339 (t350 != t339) a0_0 l0_1 t335 t336 t346 t347) else (laws_FnExactInverseMatrix.j1 kj10 t339 true a0_0 l0_1 t335 t336 t346 t347))))) else (some false))) = some r := H
     have A58 := Aq.mk A580
     clear A580
     replace H := Option.bind_eq_some_iff.mp H
     obtain ⟨t357, A590, H⟩ := H
     replace H : (if t357 = true then ((laws_markMatrix.f kj10 t341 t342 1).bind fun bt358 => (if bt358.1 < 0 then (laws_FnExactInverseMatrix.j1 kj10 t339 true a0_0 l0_1 t335 t336 t346 t347) else ((laws_eqMatrix.f kj10 t346 t347 t335 t336).bind fun t360 => (if t360 = true then (laws_FnExactInverseMatrix.j1 kj10 t339 (t350 != t339) a0_0 l0_1 t335 t336 t346 t347) else (laws_FnExactInverseMatrix.j1 kj10 t339 true a0_0 l0_1 t335 t336 t346 t347))))) else (some false)) = some r := H
     have A59 := Aq.mk A590
     clear A590
     by_cases c60 : t357 = true
     ·subst c60
      have H1 : ((laws_markMatrix.f kj10 t341 t342 1).bind fun bt358 => (if bt358.1 < 0 then (laws_FnExactInverseMatrix.j1 kj10 t339 true a0_0 l0_1 t335 t336 t346 t347) else ((laws_eqMatrix.f kj10 t346 t347 t335 t336).bind fun t360 => (if t360 = true then (laws_FnExactInverseMatrix.j1 kj10 t339 (t350 != t339) a0_0 l0_1 t335 t336 t346 t347) else (laws_FnExactInverseMatrix.j1 kj10 t339 true a0_0 l0_1 t335 t336 t346 t347))))) = some r := by rw [if_pos rfl] at H; exact H
      clear H
      have H := H1
      clear H1
      replace H := Option.bind_eq_some_iff.mp H
      obtain ⟨⟨t358, t359⟩, A610, H⟩ := H
      replace H : (if t358 < 0 then (laws_FnExactInverseMatrix.j1 kj10 t339 true a0_0 l0_1 t335 t336 t346 t347) else ((laws_eqMatrix.f kj10 t346 t347 t335 t336).bind fun t360 => (if t360 = true then (laws_FnExactInverseMatrix.j1 kj10 t339 (t350 != t339) a0_0 l0_1 t335 t336 t346 t347) else (laws_FnExactInverseMatrix.j1 kj10 t339 true a0_0 l0_1 t335 t336 t346 t347)))) = some r := H
      have A61 := Aq.mk A610
      clear A610
      have HC62 := Aq.mk H
      clear H
      try go_wp2
      have n0_ := Aq.mk (Kd.RqD HO_341001.out)
      have n1_ := Aq.mk (Kd.RqD HO_346001.out)
      have n2_ := Aq.mk (Kd.RqD HO_352001.out)
      have n3_ := Aq.mk (kQD BK329.out)
      have n4_ := Aq.mk (kQD BK340.out)
      have n5_ := Aq.mk (kQD BK345.out)
      have n6_ := Aq.mk (kQD BK351.out)
      have n7_ := Aq.mk (bQ1 HB.out)
      clear HO_341001
      clear HO_346001
      clear HO_352001
      clear BK329
      clear BK340
      clear BK345
      clear BK351
      clear HB
      have HO_341001 := n0_
      have HO_346001 := n1_
      have HO_352001 := n2_
      have BK329 := n3_
      have BK340 := n4_
      have BK345 := n5_
      have BK351 := n6_
      have HB := n7_
      clear n0_ n1_ n2_ n3_ n4_ n5_ n6_ n7_
      refine start_ (n := 5) (S := fun w' => w'.cell? ⟨gb345, 0, none⟩ = some (.int .i64 t341) ∧ w'.cell? ⟨gb345, 1, none⟩ = some (.slice Ao29 t342.length co29) ∧ w'.cell? ⟨gb329, 0, none⟩ = some (.int .i64 a0_0) ∧ w'.cell? ⟨gb329, 1, none⟩ = some (.slice A0_1 l0_1.length c0_1)) (ds := []) #[false, false, false, false, false] (by kernel_rfl) rfl rfl ⟨(kQC BK345.out 0).trans rfl, (kQC BK345.out 1).trans rfl, (kQC BK329.out 0).trans rfl, (kQC BK329.out 1).trans rfl⟩ (fun hHeld => ?_)
      generalize wc.drew = w63 at HO_341001 HO_346001 HO_352001 BK329 BK340 BK345 BK351 HB hHeld ⊢
      refine take_ (i := 0) (N := some 41) (v := ?_) (a' := ?_) #[true, false, false, false, false] rfl rfl (by kernel_rfl) (fun _ _ _ h => h) (Or.inl ⟨by rfl, ?_⟩) hHeld ?_ ?_
      rotate_left
      ·rintro w' ⟨s0, s1, s2, s3⟩
       go_simp
       with_reducible rfl
      rotate_left
      ·simp only [Act.put, qSa, qSb, qSc, i64_w, i32_w]
       rfl
      refine take_ (i := 1) (N := some 42) (v := ?_) (a' := ?_) #[true, true, false, false, false] rfl rfl (by kernel_rfl) (fun _ _ _ h => h) (Or.inl ⟨by rfl, ?_⟩) hHeld ?_ ?_
      rotate_left
      ·rintro w' ⟨s0, s1, s2, s3⟩
       go_simp
       with_reducible rfl
      rotate_left
      ·simp only [Act.put, qSa, qSb, qSc, i64_w, i32_w]
       rfl
      refine one_ (i := 2) (N := some 43) #[true, true, true, false, false] rfl rfl (by kernel_rfl) (by decide) (fun K hK => ?_)
      refine goes_ Try.func17 (by kernel_rfl) rfl #[.agg #[.int .i64 a0_0, .slice A0_1 l0_1.length c0_1]] (by rfl) rfl rfl (by (try simp only [List.map_toArray, List.map_cons, List.map_nil]); first | done | rfl | (simp only [List.length_drop, List.length_take]; rfl)) ?_
      with_reducible refine (laws_toMatrix.calls kj10 a0_0 _ _ l0_1 t353 t354 _ ?side1 ?side2 A58.out).mono ?_
      (case side1 => repeat (first | exact (Kd.C_below HR0_1.out HB.out) | (with_reducible refine Kd.CqA ?_ _) | (with_reducible refine Kd.CqN ?_ _) | (with_reducible refine Kd.CqD ?_)))
      (case side2 => exact HC0_1.out)
      rintro e w64 ⟨v355, rfl, ho0, hb⟩
      refine ⟨_, rfl, ?_⟩
      have n0_ := Aq.mk (Kd.R_elder' (by (with_reducible repeat (first | apply Kd.RqA | apply Kd.RqN | apply Kd.RqD)); exact HO_341001.out) (Kd.R_base ho0) hb)
      have n1_ := Aq.mk (Kd.R_elder' (by (with_reducible repeat (first | apply Kd.RqA | apply Kd.RqN | apply Kd.RqD)); exact HO_346001.out) (Kd.R_base ho0) hb)
      have n2_ := Aq.mk (Kd.R_elder' (by (with_reducible repeat (first | apply Kd.RqA | apply Kd.RqN | apply Kd.RqD)); exact HO_352001.out) (Kd.R_base ho0) hb)
      have n3_ := Aq.mk (Kd.R_lower (Kd.R_new' (Kd.R_new' (Kd.R_new' ho0 (Kd.R_lt (by (with_reducible repeat (first | apply Kd.RqA | apply Kd.RqN | apply Kd.RqD)); exact HO_341001.out))) (Kd.R_lt (by (with_reducible repeat (first | apply Kd.RqA | apply Kd.RqN | apply Kd.RqD)); exact HO_346001.out))) (Kd.R_lt (by (with_reducible repeat (first | apply Kd.RqA | apply Kd.RqN | apply Kd.RqD)); exact HO_352001.out))) (bQZ (by repeat (first | (with_reducible first | exact HB.out | apply bQA | apply bQN | apply bQ1 | refine bQS ?_ GE329.out | refine bQS ?_ GE340.out | refine bQS ?_ GE345.out | refine bQS ?_ GE351.out) | exact HB.out))))
      have n4_ := Aq.mk (kQB (g := gb329) (o := .cells #[.int .i64 a0_0, .slice A0_1 l0_1.length c0_1] 24 (0, 0)) (by (with_reducible repeat (first | refine kQN ?_ _ | refine kQD ?_ | refine kQA ?_ _)); exact BK329.out) hb)
      have n5_ := Aq.mk (kQB (g := gb340) (o := .cells #[.int .i64 t335, .slice Ao22 t336.length co22] 26 (0, 0)) (by (with_reducible repeat (first | refine kQN ?_ _ | refine kQD ?_ | refine kQA ?_ _)); exact BK340.out) hb)
      have n6_ := Aq.mk (kQB (g := gb345) (o := .cells #[.int .i64 t341, .slice Ao29 t342.length co29] 26 (0, 0)) (by (with_reducible repeat (first | refine kQN ?_ _ | refine kQD ?_ | refine kQA ?_ _)); exact BK345.out) hb)
      have n7_ := Aq.mk (kQB (g := gb351) (o := .cells #[.int .i64 t346, .slice Ao38 t347.length co38] 26 (0, 0)) (by (with_reducible repeat (first | refine kQN ?_ _ | refine kQD ?_ | refine kQA ?_ _)); exact BK351.out) hb)
      have n8_ := Aq.mk (bQT (by repeat (first | (with_reducible first | exact HB.out | apply bQA | apply bQN | apply bQ1 | refine bQS ?_ GE329.out | refine bQS ?_ GE340.out | refine bQS ?_ GE345.out | refine bQS ?_ GE351.out) | exact HB.out)) hb)
      clear HO_341001
      clear HO_346001
      clear HO_352001
      clear BK329
      clear BK340
      clear BK345
      clear BK351
      clear HB
      have HO_341001 := n0_
      have HO_346001 := n1_
      have HO_352001 := n2_
      have HO356 := n3_
      have BK329 := n4_
      have BK340 := n5_
      have BK345 := n6_
      have BK351 := n7_
      have HB := n8_
      clear n0_ n1_ n2_ n3_ n4_ n5_ n6_ n7_ n8_
      (try clear hb)
      (try clear hb2)
      (try clear hk)
      (try clear hi)
      (try clear ho0)
      obtain ⟨Ao65, co65, eo65⟩ := Kd.R_slice HO356.out
      (first | subst eo65 | (injection eo65 with f1_ f2_ f3_; have f4_ := f1_.symm; have f5_ := f3_.symm; clear f1_ f2_ f3_; subst f4_; subst f5_))
      refine hK.out _ _ ⟨(kQC BK345.out 0).trans rfl, (kQC BK345.out 1).trans rfl, (kQC BK329.out 0).trans rfl, (kQC BK329.out 1).trans rfl⟩ (fun hHeld => ?_)
      clear hK K
      refine norm_ (a' := ?_) ?_ ?_
      rotate_left
      ·show Act.put _ (some 43) _ = _
       simp only [Act.put, qSa, qSb, qSc, i64_w, i32_w]
       rfl
      refine one_ (i := 3) (N := some 44) #[true, true, true, true, false] rfl rfl (by kernel_rfl) (by decide) (fun K hK => ?_)
      refine goes_ Try.func19 (by kernel_rfl) rfl #[.agg #[.int .i64 t341, .slice Ao29 t342.length co29], .agg #[.int .i64 t353, .slice Ao65 t354.length co65]] (by rfl) rfl rfl (by (try simp only [List.map_toArray, List.map_cons, List.map_nil]); first | done | rfl | (simp only [List.length_drop, List.length_take]; rfl)) ?_
      with_reducible refine (laws_eqMatrix.calls kj10 t341 _ _ t342 t353 _ _ t354 true _ ?side1 ?side2 ?side3 ?side4 A59.out).mono ?_
      (case side1 => repeat (first | exact (Kd.R_reads' HO_346001.out).2.2 | (with_reducible refine Kd.CqA ?_ _) | (with_reducible refine Kd.CqN ?_ _) | (with_reducible refine Kd.CqD ?_)))
      (case side2 => exact (Kd.R_reads' HO_346001.out).2.1)
      (case side3 => repeat (first | exact (Kd.R_reads' HO356.out).2.2 | (with_reducible refine Kd.CqA ?_ _) | (with_reducible refine Kd.CqN ?_ _) | (with_reducible refine Kd.CqD ?_)))
      (case side4 => exact (Kd.R_reads' HO356.out).2.1)
      rintro e w66 ⟨rfl, hb⟩
      refine ⟨_, rfl, ?_⟩
      have n0_ := Aq.mk (Kd.R_below (by (with_reducible repeat (first | apply Kd.RqA | apply Kd.RqN | apply Kd.RqD)); exact HO_341001.out) hb)
      have n1_ := Aq.mk (Kd.R_below (by (with_reducible repeat (first | apply Kd.RqA | apply Kd.RqN | apply Kd.RqD)); exact HO_346001.out) hb)
      have n2_ := Aq.mk (Kd.R_below (by (with_reducible repeat (first | apply Kd.RqA | apply Kd.RqN | apply Kd.RqD)); exact HO_352001.out) hb)
      have n3_ := Aq.mk (Kd.R_below (by (with_reducible repeat (first | apply Kd.RqA | apply Kd.RqN | apply Kd.RqD)); exact HO356.out) hb)
      have n4_ := Aq.mk (kQB (g := gb329) (o := .cells #[.int .i64 a0_0, .slice A0_1 l0_1.length c0_1] 24 (0, 0)) (by (with_reducible repeat (first | refine kQN ?_ _ | refine kQD ?_ | refine kQA ?_ _)); exact BK329.out) hb)
      have n5_ := Aq.mk (kQB (g := gb340) (o := .cells #[.int .i64 t335, .slice Ao22 t336.length co22] 26 (0, 0)) (by (with_reducible repeat (first | refine kQN ?_ _ | refine kQD ?_ | refine kQA ?_ _)); exact BK340.out) hb)
      have n6_ := Aq.mk (kQB (g := gb345) (o := .cells #[.int .i64 t341, .slice Ao29 t342.length co29] 26 (0, 0)) (by (with_reducible repeat (first | refine kQN ?_ _ | refine kQD ?_ | refine kQA ?_ _)); exact BK345.out) hb)
      have n7_ := Aq.mk (kQB (g := gb351) (o := .cells #[.int .i64 t346, .slice Ao38 t347.length co38] 26 (0, 0)) (by (with_reducible repeat (first | refine kQN ?_ _ | refine kQD ?_ | refine kQA ?_ _)); exact BK351.out) hb)
      have n8_ := Aq.mk (bQT (by repeat (first | (with_reducible first | exact HB.out | apply bQA | apply bQN | apply bQ1 | refine bQS ?_ GE329.out | refine bQS ?_ GE340.out | refine bQS ?_ GE345.out | refine bQS ?_ GE351.out) | exact HB.out)) hb)
      clear HO_341001
      clear HO_346001
      clear HO_352001
      clear HO356
      clear BK329
      clear BK340
      clear BK345
      clear BK351
      clear HB
      have HO_341001 := n0_
      have HO_346001 := n1_
      have HO_352001 := n2_
      have HO356 := n3_
      have BK329 := n4_
      have BK340 := n5_
      have BK345 := n6_
      have BK351 := n7_
      have HB := n8_
      clear n0_ n1_ n2_ n3_ n4_ n5_ n6_ n7_ n8_
      (try clear hb)
      (try clear hb2)
      (try clear hk)
      (try clear hi)
      refine hK.out _ _ ⟨(kQC BK345.out 0).trans rfl, (kQC BK345.out 1).trans rfl, (kQC BK329.out 0).trans rfl, (kQC BK329.out 1).trans rfl⟩ (fun hHeld => ?_)
      clear hK K
      refine norm_ (a' := ?_) ?_ ?_
      rotate_left
      ·show Act.put _ (some 44) _ = _
       simp only [Act.put, qSa, qSb, qSc, i64_w, i32_w]
       rfl
      refine pure_ (i := 4) (N := some 45) (v := ?_) (a' := ?_) #[true, true, true, true, true] rfl rfl (by kernel_rfl) (fun _ _ _ h => h) (Or.inl ⟨by rfl, ?_⟩) ?_ ?_
      rotate_left
      ·intro w'
       go_simp
       with_reducible rfl
      rotate_left
      ·simp only [Act.put, qSa, qSb, qSc, i64_w, i32_w]
       rfl
      refine done_ (by kernel_rfl) ?_
      have hnb67 := NB345_329.out
      have hnc67 := NB329_345.out
      have hnb68 := NB345_340.out
      have hnc68 := NB340_345.out
      have hnb69 := NB345_351.out
      have hnc69 := NB351_345.out
      have hcz70_0 : w66.cell? ⟨gb345, 0, none⟩ = some (.int .i64 t341) := (kQC BK345.out 0).trans rfl
      have hcz70_1 : w66.cell? ⟨gb345, 1, none⟩ = some (.slice Ao29 t342.length co29) := (kQC BK345.out 1).trans rfl
      have hfz70_0 := kQF BK345.out 0
      have hfz70_1 := kQF BK345.out 1
      go_upto_region 14 with (first | ((with_reducible refine gQc (f := 20) rfl ?_); refine goesL_ (some 48) rfl rfl Try.func20 (by kernel_rfl) rfl #[.agg #[.int .i64 t341, .slice Ao29 t342.length co29], .int .i64 1] rfl (by (try simp only [List.map_toArray, List.map_cons, List.map_nil]); first | done | rfl | (simp only [List.length_drop, List.length_take]; rfl)) ?_; (with_reducible refine (laws_markMatrix.calls kj10 t341 (fun k_ => some k_ = (.slice Ao29 t342.length co29 : Value).ownBlock) (.slice Ao29 t342.length co29) t342 1 t358 t359 w _ ?side1 ?side2 A61.out).mono ?_); (case side1 => repeat (first | (with_reducible first | exact HB.out | apply bQA | apply bQN | apply bQ1 | refine bQS ?_ GE329.out | refine bQS ?_ GE340.out | refine bQS ?_ GE345.out | refine bQS ?_ GE351.out) | exact HB.out)); (case side2 => exact Kd.R_tight rfl HO_346001.out); rintro e w71 ⟨rfl, hy0, hb, hkp⟩; refine ⟨_, rfl, ?_⟩; have n0_ := Aq.mk (Kd.R_mono (ok' := fun k_ => some k_ ≠ (.slice Ao29 t342.length co29 : Value).ownBlock ∧ some k_ ≠ (.slice Ao38 t347.length co38 : Value).ownBlock ∧ some k_ ≠ (.slice Ao65 t354.length co65 : Value).ownBlock) (Kd.R_keptB (HO_341001.out) hkp (fun k_ hk_ hs_ => (hk_.1.1) hs_)) (fun k_ hk_ => ⟨hk_.1.1.1, hk_.1.1.2, hk_.1.2⟩)); have n1_ := Aq.mk (Kd.R_reok rfl hy0 (fun k_ e_ => HO_346001.out.1 k_ e_)); have n2_ := Aq.mk (Kd.R_mono (ok' := fun k_ => some k_ ≠ (.slice Ao22 t336.length co22 : Value).ownBlock ∧ some k_ ≠ (.slice Ao29 t342.length co29 : Value).ownBlock ∧ some k_ ≠ (.slice Ao65 t354.length co65 : Value).ownBlock) (Kd.R_keptB (HO_352001.out) hkp (fun k_ hk_ hs_ => (hk_.1.2) hs_)) (fun k_ hk_ => ⟨hk_.1.1.1, hk_.1.1.2, hk_.1.2⟩)); have n3_ := Aq.mk (blk_kept (by (with_reducible repeat (first | refine kQN ?_ _ | refine kQD ?_ | refine kQA ?_ _)); exact BK329.out) hkp (fun hs_ => (fun e_ => (Kd.R_ne HO_346001.out BK329.out (by decide)) e_) hs_)); have n4_ := Aq.mk (blk_kept (by (with_reducible repeat (first | refine kQN ?_ _ | refine kQD ?_ | refine kQA ?_ _)); exact BK340.out) hkp (fun hs_ => (fun e_ => (Kd.R_ne HO_346001.out BK340.out (by decide)) e_) hs_)); have n5_ := Aq.mk (blk_kept (by (with_reducible repeat (first | refine kQN ?_ _ | refine kQD ?_ | refine kQA ?_ _)); exact BK345.out) hkp (fun hs_ => (fun e_ => (Kd.R_ne HO_346001.out BK345.out (by decide)) e_) hs_)); have n6_ := Aq.mk (blk_kept (by (with_reducible repeat (first | refine kQN ?_ _ | refine kQD ?_ | refine kQA ?_ _)); exact BK351.out) hkp (fun hs_ => (fun e_ => (Kd.R_ne HO_346001.out BK351.out (by decide)) e_) hs_)); have n7_ := Aq.mk (Kd.R_mono (ok' := fun k_ => some k_ ≠ (.slice Ao22 t336.length co22 : Value).ownBlock ∧ some k_ ≠ (.slice Ao29 t342.length co29 : Value).ownBlock ∧ some k_ ≠ (.slice Ao38 t347.length co38 : Value).ownBlock) (Kd.R_keptB (HO356.out) hkp (fun k_ hk_ hs_ => (hk_.1.2) hs_)) (fun k_ hk_ => ⟨hk_.1.1.1.2, hk_.1.1.2, hk_.1.2⟩)); have n8_ := Aq.mk (hb); clear HO_341001; clear HO_346001; clear HO_352001; clear BK329; clear BK340; clear BK345; clear BK351; clear HO356; clear HB; have HO_341001 := n0_; have HO_346001 := n1_; have HO_352001 := n2_; have BK329 := n3_; have BK340 := n4_; have BK345 := n5_; have BK351 := n6_; have HO356 := n7_; have HB := n8_; clear n0_ n1_ n2_ n3_ n4_ n5_ n6_ n7_ n8_; (try clear hb); (try clear hkp); (try clear hy0)))
      (try simp only [Act.put, qSa, qSb, qSc])
      go_cut [61] (fun v61 wc => ∃ (kq : Nat) (x61_61 : Bool), v61 = .bool x61_61 ∧ Aq (laws_FnExactInverseMatrix.j1 kq t339 x61_61 a0_0 l0_1 t335 t336 t346 t347 = some r) ∧ Aq (kq ≤ kj10) ∧ Aq (Kd.R (Kd.int .i64) 2 wc w.heap.size (fun k_ => some k_ ≠ ((.slice Ao29 t342.length co29) : Value).ownBlock ∧ some k_ ≠ ((.slice Ao38 t347.length co38) : Value).ownBlock) (.slice Ao22 t336.length co22) t336) ∧ Aq (Kd.R (Kd.int .i64) 2 wc w.heap.size (fun k_ => some k_ ≠ ((.slice Ao22 t336.length co22) : Value).ownBlock ∧ some k_ ≠ ((.slice Ao38 t347.length co38) : Value).ownBlock) (.slice Ao29 t342.length co29) t359) ∧ Aq (Kd.R (Kd.int .i64) 2 wc w.heap.size (fun k_ => some k_ ≠ ((.slice Ao22 t336.length co22) : Value).ownBlock ∧ some k_ ≠ ((.slice Ao29 t342.length co29) : Value).ownBlock) (.slice Ao38 t347.length co38) t347) ∧ Aq (wc.heap[gb329]? = some (.cells #[.int .i64 a0_0, (.slice A0_1 l0_1.length c0_1)] 24 (0, 0))) ∧ Aq (wc.heap[gb340]? = some (.cells #[.int .i64 t335, (.slice Ao22 t336.length co22)] 26 (0, 0))) ∧ Aq (wc.heap[gb345]? = some (.cells #[.int .i64 t341, (.slice Ao29 t342.length co29)] 26 (0, 0))) ∧ Aq (wc.heap[gb351]? = some (.cells #[.int .i64 t346, (.slice Ao38 t347.length co38)] 26 (0, 0))) ∧ Aq (Below w.heap.size w wc))
      case first =>
       have H := HC62.out
       clear HC62
       by_cases c72 : t358 < 0
       ·rw [if_pos c72] at H
        have c72b0 : decide (t358 < 0) = true := decide_eq_true c72
        clear c72
        (first | rw [c72b0] | (simp only [i64_w, i32_w]; rw [c72b0]) | skip)
        have H' := Aq.mk H
        clear H
        go_wp2
        go_meet
        case rel => exact ⟨_, (true), (by first | rfl | (simp; done) | (simp [*]; done)), H', ⟨by have := HJ10.out; first | omega | exact Nat.le_refl _⟩, ⟨by (with_reducible repeat (first | apply Kd.RqA | apply Kd.RqN | apply Kd.RqD)); exact Kd.R_mono HO_341001.out (fun _ hk => ⟨hk.1, hk.2.1⟩)⟩, ⟨by (with_reducible repeat (first | apply Kd.RqA | apply Kd.RqN | apply Kd.RqD)); exact Kd.R_mono HO_346001.out (fun _ hk => ⟨hk.1.1, hk.1.2⟩)⟩, ⟨by (with_reducible repeat (first | apply Kd.RqA | apply Kd.RqN | apply Kd.RqD)); exact Kd.R_mono HO_352001.out (fun _ hk => ⟨hk.1, hk.2.1⟩)⟩, ⟨by (with_reducible repeat (first | refine kQN ?_ _ | refine kQD ?_ | refine kQA ?_ _)); exact BK329.out⟩, ⟨by (with_reducible repeat (first | refine kQN ?_ _ | refine kQD ?_ | refine kQA ?_ _)); exact BK340.out⟩, ⟨by (with_reducible repeat (first | refine kQN ?_ _ | refine kQD ?_ | refine kQA ?_ _)); exact BK345.out⟩, ⟨by (with_reducible repeat (first | refine kQN ?_ _ | refine kQD ?_ | refine kQA ?_ _)); exact BK351.out⟩, ⟨by repeat (first | (with_reducible first | exact HB.out | apply bQA | apply bQN | apply bQ1 | refine bQS ?_ GE329.out | refine bQS ?_ GE340.out | refine bQS ?_ GE345.out | refine bQS ?_ GE351.out) | exact HB.out)⟩⟩
       ·rw [if_neg c72] at H
        have c72b0 : decide (t358 < 0) = false := decide_eq_false c72
        clear c72
        (first | rw [c72b0] | (simp only [i64_w, i32_w]; rw [c72b0]) | skip)
        replace H := Option.bind_eq_some_iff.mp H
        obtain ⟨t360, A730, H⟩ := H
        replace H : (if t360 = true then (laws_FnExactInverseMatrix.j1 kj10 t339 (t350 != t339) a0_0 l0_1 t335 t336 t346 t347) else (laws_FnExactInverseMatrix.j1 kj10 t339 true a0_0 l0_1 t335 t336 t346 t347)) = some r := H
        have A73 := Aq.mk A730
        clear A730
        by_cases c74 : t360 = true
        ·subst c74
         have H1 : (laws_FnExactInverseMatrix.j1 kj10 t339 (t350 != t339) a0_0 l0_1 t335 t336 t346 t347) = some r := by rw [if_pos rfl] at H; exact H
         clear H
         have H := H1
         clear H1
         have H' := Aq.mk H
         clear H
         have hnb75 := NB351_329.out
         have hnc75 := NB329_351.out
         have hnb76 := NB351_340.out
         have hnc76 := NB340_351.out
         have hnb77 := NB351_345.out
         have hnc77 := NB345_351.out
         have hcz78_0 : w71.cell? ⟨gb351, 0, none⟩ = some (.int .i64 t346) := (kQC BK351.out 0).trans rfl
         have hcz78_1 : w71.cell? ⟨gb351, 1, none⟩ = some (.slice Ao38 t347.length co38) := (kQC BK351.out 1).trans rfl
         have hfz78_0 := kQF BK351.out 0
         have hfz78_1 := kQF BK351.out 1
         have hnb79 := NB340_329.out
         have hnc79 := NB329_340.out
         have hnb80 := NB340_345.out
         have hnc80 := NB345_340.out
         have hcz81_0 : w71.cell? ⟨gb340, 0, none⟩ = some (.int .i64 t335) := (kQC BK340.out 0).trans rfl
         have hcz81_1 : w71.cell? ⟨gb340, 1, none⟩ = some (.slice Ao22 t336.length co22) := (kQC BK340.out 1).trans rfl
         have hfz81_0 := kQF BK340.out 0
         have hfz81_1 := kQF BK340.out 1
         go_wp2_with (first | (go_at_call 19; (with_reducible refine (laws_eqMatrix.calls kj10 t346 _ _ t347 t335 _ _ t336 true _ ?side1 ?side2 ?side3 ?side4 A73.out).mono ?_); (case side1 => repeat (first | exact (Kd.R_reads' HO_352001.out).2.2 | (with_reducible refine Kd.CqA ?_ _) | (with_reducible refine Kd.CqN ?_ _) | (with_reducible refine Kd.CqD ?_))); (case side2 => exact (Kd.R_reads' HO_352001.out).2.1); (case side3 => repeat (first | exact (Kd.R_reads' HO_341001.out).2.2 | (with_reducible refine Kd.CqA ?_ _) | (with_reducible refine Kd.CqN ?_ _) | (with_reducible refine Kd.CqD ?_))); (case side4 => exact (Kd.R_reads' HO_341001.out).2.1); rintro e w82 ⟨rfl, hb⟩; have n0_ := Aq.mk (Kd.R_below (by (with_reducible repeat (first | apply Kd.RqA | apply Kd.RqN | apply Kd.RqD)); exact HO_341001.out) hb); have n1_ := Aq.mk (Kd.R_below (by (with_reducible repeat (first | apply Kd.RqA | apply Kd.RqN | apply Kd.RqD)); exact HO_346001.out) hb); have n2_ := Aq.mk (Kd.R_below (by (with_reducible repeat (first | apply Kd.RqA | apply Kd.RqN | apply Kd.RqD)); exact HO_352001.out) hb); have n3_ := Aq.mk (Kd.R_below (by (with_reducible repeat (first | apply Kd.RqA | apply Kd.RqN | apply Kd.RqD)); exact HO356.out) hb); have n4_ := Aq.mk (kQB (g := gb329) (o := .cells #[.int .i64 a0_0, .slice A0_1 l0_1.length c0_1] 24 (0, 0)) (by (with_reducible repeat (first | refine kQN ?_ _ | refine kQD ?_ | refine kQA ?_ _)); exact BK329.out) hb); have n5_ := Aq.mk (kQB (g := gb340) (o := .cells #[.int .i64 t335, .slice Ao22 t336.length co22] 26 (0, 0)) (by (with_reducible repeat (first | refine kQN ?_ _ | refine kQD ?_ | refine kQA ?_ _)); exact BK340.out) hb); have n6_ := Aq.mk (kQB (g := gb345) (o := .cells #[.int .i64 t341, .slice Ao29 t342.length co29] 26 (0, 0)) (by (with_reducible repeat (first | refine kQN ?_ _ | refine kQD ?_ | refine kQA ?_ _)); exact BK345.out) hb); have n7_ := Aq.mk (kQB (g := gb351) (o := .cells #[.int .i64 t346, .slice Ao38 t347.length co38] 26 (0, 0)) (by (with_reducible repeat (first | refine kQN ?_ _ | refine kQD ?_ | refine kQA ?_ _)); exact BK351.out) hb); have n8_ := Aq.mk (bQT (by repeat (first | (with_reducible first | exact HB.out | apply bQA | apply bQN | apply bQ1 | refine bQS ?_ GE329.out | refine bQS ?_ GE340.out | refine bQS ?_ GE345.out | refine bQS ?_ GE351.out) | exact HB.out)) hb); clear HO_341001; clear HO_346001; clear HO_352001; clear HO356; clear BK329; clear BK340; clear BK345; clear BK351; clear HB; have HO_341001 := n0_; have HO_346001 := n1_; have HO_352001 := n2_; have HO356 := n3_; have BK329 := n4_; have BK340 := n5_; have BK345 := n6_; have BK351 := n7_; have HB := n8_; clear n0_ n1_ n2_ n3_ n4_ n5_ n6_ n7_ n8_; (try clear hb); (try clear hb2); (try clear hk); (try clear hi)))
         go_meet
         case rel => exact ⟨_, ((t350 != t339)), (by first | rfl | (simp; done) | (simp [*]; done)), H', ⟨by have := HJ10.out; first | omega | exact Nat.le_refl _⟩, ⟨by (with_reducible repeat (first | apply Kd.RqA | apply Kd.RqN | apply Kd.RqD)); exact Kd.R_mono HO_341001.out (fun _ hk => ⟨hk.1, hk.2.1⟩)⟩, ⟨by (with_reducible repeat (first | apply Kd.RqA | apply Kd.RqN | apply Kd.RqD)); exact Kd.R_mono HO_346001.out (fun _ hk => ⟨hk.1.1, hk.1.2⟩)⟩, ⟨by (with_reducible repeat (first | apply Kd.RqA | apply Kd.RqN | apply Kd.RqD)); exact Kd.R_mono HO_352001.out (fun _ hk => ⟨hk.1, hk.2.1⟩)⟩, ⟨by (with_reducible repeat (first | refine kQN ?_ _ | refine kQD ?_ | refine kQA ?_ _)); exact BK329.out⟩, ⟨by (with_reducible repeat (first | refine kQN ?_ _ | refine kQD ?_ | refine kQA ?_ _)); exact BK340.out⟩, ⟨by (with_reducible repeat (first | refine kQN ?_ _ | refine kQD ?_ | refine kQA ?_ _)); exact BK345.out⟩, ⟨by (with_reducible repeat (first | refine kQN ?_ _ | refine kQD ?_ | refine kQA ?_ _)); exact BK351.out⟩, ⟨by repeat (first | (with_reducible first | exact HB.out | apply bQA | apply bQN | apply bQ1 | refine bQS ?_ GE329.out | refine bQS ?_ GE340.out | refine bQS ?_ GE345.out | refine bQS ?_ GE351.out) | exact HB.out)⟩⟩
        ·replace c74 := Bool.eq_false_iff.mpr c74
         subst c74
         have H1 : (laws_FnExactInverseMatrix.j1 kj10 t339 true a0_0 l0_1 t335 t336 t346 t347) = some r := by rw [if_neg (show ¬ (false = true) by decide)] at H; exact H
         clear H
         have H := H1
         clear H1
         have H' := Aq.mk H
         clear H
         have hnb83 := NB351_329.out
         have hnc83 := NB329_351.out
         have hnb84 := NB351_340.out
         have hnc84 := NB340_351.out
         have hnb85 := NB351_345.out
         have hnc85 := NB345_351.out
         have hcz86_0 : w71.cell? ⟨gb351, 0, none⟩ = some (.int .i64 t346) := (kQC BK351.out 0).trans rfl
         have hcz86_1 : w71.cell? ⟨gb351, 1, none⟩ = some (.slice Ao38 t347.length co38) := (kQC BK351.out 1).trans rfl
         have hfz86_0 := kQF BK351.out 0
         have hfz86_1 := kQF BK351.out 1
         have hnb87 := NB340_329.out
         have hnc87 := NB329_340.out
         have hnb88 := NB340_345.out
         have hnc88 := NB345_340.out
         have hcz89_0 : w71.cell? ⟨gb340, 0, none⟩ = some (.int .i64 t335) := (kQC BK340.out 0).trans rfl
         have hcz89_1 : w71.cell? ⟨gb340, 1, none⟩ = some (.slice Ao22 t336.length co22) := (kQC BK340.out 1).trans rfl
         have hfz89_0 := kQF BK340.out 0
         have hfz89_1 := kQF BK340.out 1
         go_wp2_with (first | (go_at_call 19; (with_reducible refine (laws_eqMatrix.calls kj10 t346 _ _ t347 t335 _ _ t336 false _ ?side1 ?side2 ?side3 ?side4 A73.out).mono ?_); (case side1 => repeat (first | exact (Kd.R_reads' HO_352001.out).2.2 | (with_reducible refine Kd.CqA ?_ _) | (with_reducible refine Kd.CqN ?_ _) | (with_reducible refine Kd.CqD ?_))); (case side2 => exact (Kd.R_reads' HO_352001.out).2.1); (case side3 => repeat (first | exact (Kd.R_reads' HO_341001.out).2.2 | (with_reducible refine Kd.CqA ?_ _) | (with_reducible refine Kd.CqN ?_ _) | (with_reducible refine Kd.CqD ?_))); (case side4 => exact (Kd.R_reads' HO_341001.out).2.1); rintro e w90 ⟨rfl, hb⟩; have n0_ := Aq.mk (Kd.R_below (by (with_reducible repeat (first | apply Kd.RqA | apply Kd.RqN | apply Kd.RqD)); exact HO_341001.out) hb); have n1_ := Aq.mk (Kd.R_below (by (with_reducible repeat (first | apply Kd.RqA | apply Kd.RqN | apply Kd.RqD)); exact HO_346001.out) hb); have n2_ := Aq.mk (Kd.R_below (by (with_reducible repeat (first | apply Kd.RqA | apply Kd.RqN | apply Kd.RqD)); exact HO_352001.out) hb); have n3_ := Aq.mk (Kd.R_below (by (with_reducible repeat (first | apply Kd.RqA | apply Kd.RqN | apply Kd.RqD)); exact HO356.out) hb); have n4_ := Aq.mk (kQB (g := gb329) (o := .cells #[.int .i64 a0_0, .slice A0_1 l0_1.length c0_1] 24 (0, 0)) (by (with_reducible repeat (first | refine kQN ?_ _ | refine kQD ?_ | refine kQA ?_ _)); exact BK329.out) hb); have n5_ := Aq.mk (kQB (g := gb340) (o := .cells #[.int .i64 t335, .slice Ao22 t336.length co22] 26 (0, 0)) (by (with_reducible repeat (first | refine kQN ?_ _ | refine kQD ?_ | refine kQA ?_ _)); exact BK340.out) hb); have n6_ := Aq.mk (kQB (g := gb345) (o := .cells #[.int .i64 t341, .slice Ao29 t342.length co29] 26 (0, 0)) (by (with_reducible repeat (first | refine kQN ?_ _ | refine kQD ?_ | refine kQA ?_ _)); exact BK345.out) hb); have n7_ := Aq.mk (kQB (g := gb351) (o := .cells #[.int .i64 t346, .slice Ao38 t347.length co38] 26 (0, 0)) (by (with_reducible repeat (first | refine kQN ?_ _ | refine kQD ?_ | refine kQA ?_ _)); exact BK351.out) hb); have n8_ := Aq.mk (bQT (by repeat (first | (with_reducible first | exact HB.out | apply bQA | apply bQN | apply bQ1 | refine bQS ?_ GE329.out | refine bQS ?_ GE340.out | refine bQS ?_ GE345.out | refine bQS ?_ GE351.out) | exact HB.out)) hb); clear HO_341001; clear HO_346001; clear HO_352001; clear HO356; clear BK329; clear BK340; clear BK345; clear BK351; clear HB; have HO_341001 := n0_; have HO_346001 := n1_; have HO_352001 := n2_; have HO356 := n3_; have BK329 := n4_; have BK340 := n5_; have BK345 := n6_; have BK351 := n7_; have HB := n8_; clear n0_ n1_ n2_ n3_ n4_ n5_ n6_ n7_ n8_; (try clear hb); (try clear hb2); (try clear hk); (try clear hi)))
         go_meet
         case rel => exact ⟨_, (true), (by first | rfl | (simp; done) | (simp [*]; done)), H', ⟨by have := HJ10.out; first | omega | exact Nat.le_refl _⟩, ⟨by (with_reducible repeat (first | apply Kd.RqA | apply Kd.RqN | apply Kd.RqD)); exact Kd.R_mono HO_341001.out (fun _ hk => ⟨hk.1, hk.2.1⟩)⟩, ⟨by (with_reducible repeat (first | apply Kd.RqA | apply Kd.RqN | apply Kd.RqD)); exact Kd.R_mono HO_346001.out (fun _ hk => ⟨hk.1.1, hk.1.2⟩)⟩, ⟨by (with_reducible repeat (first | apply Kd.RqA | apply Kd.RqN | apply Kd.RqD)); exact Kd.R_mono HO_352001.out (fun _ hk => ⟨hk.1, hk.2.1⟩)⟩, ⟨by (with_reducible repeat (first | refine kQN ?_ _ | refine kQD ?_ | refine kQA ?_ _)); exact BK329.out⟩, ⟨by (with_reducible repeat (first | refine kQN ?_ _ | refine kQD ?_ | refine kQA ?_ _)); exact BK340.out⟩, ⟨by (with_reducible repeat (first | refine kQN ?_ _ | refine kQD ?_ | refine kQA ?_ _)); exact BK345.out⟩, ⟨by (with_reducible repeat (first | refine kQN ?_ _ | refine kQD ?_ | refine kQA ?_ _)); exact BK351.out⟩, ⟨by repeat (first | (with_reducible first | exact HB.out | apply bQA | apply bQN | apply bQ1 | refine bQS ?_ GE329.out | refine bQS ?_ GE340.out | refine bQS ?_ GE345.out | refine bQS ?_ GE351.out) | exact HB.out)⟩⟩
      case rest =>
       clear HC62
       try clear c1
       try clear c2
       try clear p2
       try clear c3
       try clear c3b0
       try clear c4
       try clear c5
       try clear c6
       try clear c7
       try clear c8
       try clear c15
       try clear c17
       try clear c19
       try clear c20
       try clear c22
       try clear c23
       try clear c26
       try clear c27
       try clear c34
       try clear c35
       try clear c36
       try clear c40
       try clear c41
       try clear c42
       try clear c43
       try clear c45
       try clear c46
       try clear c49
       try clear c50
       try clear c51
       try clear c53
       try clear c54
       try clear c57
       try clear c60
       try clear c67
       try clear c68
       try clear c69
       try clear c72
       try clear c72b0
       try clear c74
       try clear c75
       try clear c76
       try clear c77
       try clear c79
       try clear c80
       try clear c83
       try clear c84
       try clear c85
       try clear c87
       try clear c88
       try clear hcz13_0
       try clear hcz13_1
       try clear hcz15_0
       try clear hcz15_1
       try clear hcz21_0
       try clear hcz21_1
       try clear hcz23_0
       try clear hcz23_1
       try clear hcz28_0
       try clear hcz28_1
       try clear hcz31_0
       try clear hcz31_1
       try clear hcz37_0
       try clear hcz37_1
       try clear hcz44_0
       try clear hcz44_1
       try clear hcz47_0
       try clear hcz47_1
       try clear hcz52_0
       try clear hcz52_1
       try clear hcz55_0
       try clear hcz55_1
       try clear hcz5_0
       try clear hcz5_1
       try clear hcz70_0
       try clear hcz70_1
       try clear hcz78_0
       try clear hcz78_1
       try clear hcz81_0
       try clear hcz81_1
       try clear hcz86_0
       try clear hcz86_1
       try clear hcz89_0
       try clear hcz89_1
       try clear hfz13_0
       try clear hfz13_1
       try clear hfz15_0
       try clear hfz15_1
       try clear hfz21_0
       try clear hfz21_1
       try clear hfz23_0
       try clear hfz23_1
       try clear hfz28_0
       try clear hfz28_1
       try clear hfz31_0
       try clear hfz31_1
       try clear hfz37_0
       try clear hfz37_1
       try clear hfz44_0
       try clear hfz44_1
       try clear hfz47_0
       try clear hfz47_1
       try clear hfz52_0
       try clear hfz52_1
       try clear hfz55_0
       try clear hfz55_1
       try clear hfz5_0
       try clear hfz5_1
       try clear hfz70_0
       try clear hfz70_1
       try clear hfz78_0
       try clear hfz78_1
       try clear hfz81_0
       try clear hfz81_1
       try clear hfz86_0
       try clear hfz86_1
       try clear hfz89_0
       try clear hfz89_1
       try clear p2
       obtain ⟨kq, x61_61, rfl, HA, HJ61, HO_341001, HO_346001, HO_352001, BK329, BK340, BK345, BK351, HB⟩ := hcut
       have hl346001_61 := (Kd.R_reads' HO_346001.out).1
       rw [hl346001_61] at HO_346001
       (try simp only [hl346001_61])
       (try simp only [hl346001_61] at BK329)
       (try simp only [hl346001_61] at BK340)
       (try simp only [hl346001_61] at BK345)
       (try simp only [hl346001_61] at BK351)
       (try simp only [hl346001_61] at HO_341001)
       (try simp only [hl346001_61] at HO_352001)
       cases kq with
       | zero => exact absurd HA.out (by simp [laws_FnExactInverseMatrix.j1])
       | succ kj61 =>
        have H := HA.out
        clear HA
        simp only [laws_FnExactInverseMatrix.j1] at H
        by_cases c91 : x61_61 = true
        ·subst c91
         have H1 : (some false) = some r := by rw [if_pos rfl] at H; exact H
         clear H
         have H := H1
         clear H1
         obtain rfl := Option.some.inj H
         go_wp2
         go_ret
         exact ⟨by first | rfl | (simp [errW_none, errW_some] <;> rfl) | (simp [*, errW_none, errW_some] <;> rfl), by repeat (first | (with_reducible first | exact HB.out | apply bQA | apply bQN | apply bQ1 | refine bQS ?_ GE329.out | refine bQS ?_ GE340.out | refine bQS ?_ GE345.out | refine bQS ?_ GE351.out) | exact HB.out)⟩
        ·replace c91 := Bool.eq_false_iff.mpr c91
         subst c91
         have H1 : ((laws_markMatrix.f kj61 t346 t347 1).bind fun bt361 => ((laws_heldMatrix.f kj61 t346 bt361.2 1).bind fun t363 => (if t363 < 0 then (some false) else (if t363 = bt361.1 then ((laws_toMatrix.f kj61 a0_0 l0_1).bind fun bt364 => ((impl_InverseMatrix.f kj61 bt364.1 bt364.2).bind fun bt368 => ((laws_eqMatrix.f kj61 bt368.1 bt368.2.1 t335 t336).bind fun t374 => (if t374 = true then (laws_FnExactInverseMatrix.j2 kj61 bt361.1 (bt368.2.2 != t339) t346 bt361.2) else (laws_FnExactInverseMatrix.j2 kj61 bt361.1 true t346 bt361.2))))) else (some false))))) = some r := by rw [if_neg (show ¬ (false = true) by decide)] at H; exact H
         clear H
         have H := H1
         clear H1
         replace H := Option.bind_eq_some_iff.mp H
         obtain ⟨⟨t361, t362⟩, A920, H⟩ := H
         replace H : ((laws_heldMatrix.f kj61 t346 t362 1).bind fun t363 => (if t363 < 0 then (some false) else (if t363 = t361 then ((laws_toMatrix.f kj61 a0_0 l0_1).bind fun bt364 => ((impl_InverseMatrix.f kj61 bt364.1 bt364.2).bind fun bt368 => ((laws_eqMatrix.f kj61 bt368.1 bt368.2.1 t335 t336).bind fun t374 => (if t374 = true then (laws_FnExactInverseMatrix.j2 kj61 t361 (bt368.2.2 != t339) t346 t362) else (laws_FnExactInverseMatrix.j2 kj61 t361 true t346 t362))))) else (some false)))) = some r := H
         have A92 := Aq.mk A920
         clear A920
         replace H := Option.bind_eq_some_iff.mp H
         obtain ⟨t363, A930, H⟩ := H
         replace H : (if t363 < 0 then (some false) else (if t363 = t361 then ((laws_toMatrix.f kj61 a0_0 l0_1).bind fun bt364 => ((impl_InverseMatrix.f kj61 bt364.1 bt364.2).bind fun bt368 => ((laws_eqMatrix.f kj61 bt368.1 bt368.2.1 t335 t336).bind fun t374 => (if t374 = true then (laws_FnExactInverseMatrix.j2 kj61 t361 (bt368.2.2 != t339) t346 t362) else (laws_FnExactInverseMatrix.j2 kj61 t361 true t346 t362))))) else (some false))) = some r := H
         have A93 := Aq.mk A930
         clear A930
         by_cases c94 : t363 < 0
         ·rw [if_pos c94] at H
          have c94b0 : decide (t363 < 0) = true := decide_eq_true c94
          clear c94
          (try (have c94b0z := c94b0; simp only [hl346001_61] at c94b0z))
          obtain rfl := Option.some.inj H
          have hnb95 := NB351_329.out
          have hnc95 := NB329_351.out
          have hnb96 := NB351_340.out
          have hnc96 := NB340_351.out
          have hnb97 := NB351_345.out
          have hnc97 := NB345_351.out
          have hcz98_0 : wc.cell? ⟨gb351, 0, none⟩ = some (.int .i64 t346) := (kQC BK351.out 0).trans rfl
          have hcz98_1 : wc.cell? ⟨gb351, 1, none⟩ = some (.slice Ao38 t347.length co38) := (kQC BK351.out 1).trans rfl
          have hfz98_0 := kQF BK351.out 0
          have hfz98_1 := kQF BK351.out 1
          go_wp2_with (first | ((with_reducible refine gQc (f := 20) rfl ?_); refine goesL_ (some 64) rfl rfl Try.func20 (by kernel_rfl) rfl #[.agg #[.int .i64 t346, .slice Ao38 t347.length co38], .int .i64 1] rfl (by (try simp only [List.map_toArray, List.map_cons, List.map_nil]); first | done | rfl | (simp only [List.length_drop, List.length_take]; rfl)) ?_; (with_reducible refine (laws_markMatrix.calls kj61 t346 (fun k_ => some k_ = (.slice Ao38 t347.length co38 : Value).ownBlock) (.slice Ao38 t347.length co38) t347 1 t361 t362 w _ ?side1 ?side2 A92.out).mono ?_); (case side1 => repeat (first | (with_reducible first | exact HB.out | apply bQA | apply bQN | apply bQ1 | refine bQS ?_ GE329.out | refine bQS ?_ GE340.out | refine bQS ?_ GE345.out | refine bQS ?_ GE351.out) | exact HB.out)); (case side2 => exact Kd.R_tight rfl HO_352001.out); rintro e w99 ⟨rfl, hy0, hb, hkp⟩; refine ⟨_, rfl, ?_⟩; have n0_ := Aq.mk (Kd.R_mono (ok' := fun k_ => some k_ ≠ (.slice Ao29 t359.length co29 : Value).ownBlock ∧ some k_ ≠ (.slice Ao38 t347.length co38 : Value).ownBlock) (Kd.R_keptB (HO_341001.out) hkp (fun k_ hk_ hs_ => (hk_.2) hs_)) (fun k_ hk_ => ⟨hk_.1.1, hk_.1.2⟩)); have n1_ := Aq.mk (Kd.R_mono (ok' := fun k_ => some k_ ≠ (.slice Ao22 t336.length co22 : Value).ownBlock ∧ some k_ ≠ (.slice Ao38 t347.length co38 : Value).ownBlock) (Kd.R_keptB (HO_346001.out) hkp (fun k_ hk_ hs_ => (hk_.2) hs_)) (fun k_ hk_ => ⟨hk_.1.1, hk_.1.2⟩)); have n2_ := Aq.mk (Kd.R_reok rfl hy0 (fun k_ e_ => HO_352001.out.1 k_ e_)); have n3_ := Aq.mk (blk_kept (by (with_reducible repeat (first | refine kQN ?_ _ | refine kQD ?_ | refine kQA ?_ _)); exact BK329.out) hkp (fun hs_ => (fun e_ => (Kd.R_ne HO_352001.out BK329.out (by decide)) e_) hs_)); have n4_ := Aq.mk (blk_kept (by (with_reducible repeat (first | refine kQN ?_ _ | refine kQD ?_ | refine kQA ?_ _)); exact BK340.out) hkp (fun hs_ => (fun e_ => (Kd.R_ne HO_352001.out BK340.out (by decide)) e_) hs_)); have n5_ := Aq.mk (blk_kept (by (with_reducible repeat (first | refine kQN ?_ _ | refine kQD ?_ | refine kQA ?_ _)); exact BK345.out) hkp (fun hs_ => (fun e_ => (Kd.R_ne HO_352001.out BK345.out (by decide)) e_) hs_)); have n6_ := Aq.mk (blk_kept (by (with_reducible repeat (first | refine kQN ?_ _ | refine kQD ?_ | refine kQA ?_ _)); exact BK351.out) hkp (fun hs_ => (fun e_ => (Kd.R_ne HO_352001.out BK351.out (by decide)) e_) hs_)); have n7_ := Aq.mk (hb); clear HO_341001; clear HO_346001; clear HO_352001; clear BK329; clear BK340; clear BK345; clear BK351; clear HB; have HO_341001 := n0_; have HO_346001 := n1_; have HO_352001 := n2_; have BK329 := n3_; have BK340 := n4_; have BK345 := n5_; have BK351 := n6_; have HB := n7_; clear n0_ n1_ n2_ n3_ n4_ n5_ n6_ n7_; (try clear hb); (try clear hkp); (try clear hy0); have hcz100_0 : w99.cell? ⟨gb351, 0, none⟩ = some (.int .i64 t346) := (kQC BK351.out 0).trans rfl; have hcz100_1 : w99.cell? ⟨gb351, 1, none⟩ = some (.slice Ao38 t347.length co38) := (kQC BK351.out 1).trans rfl; have hfz100_0 := kQF BK351.out 0; have hfz100_1 := kQF BK351.out 1) | ((with_reducible refine gQc (f := 21) rfl ?_); refine goesL_ (some 67) rfl rfl Try.func21 (by kernel_rfl) rfl #[.agg #[.int .i64 t346, .slice Ao38 t362.length co38], .int .i64 1] rfl (by (try simp only [List.map_toArray, List.map_cons, List.map_nil]); first | done | (rw [show t362.length = t347.length from (Kd.R_reads' HO_352001.out).1.symm] <;> rfl) | rfl | (simp only [List.length_drop, List.length_take]; rfl)) ?_; (with_reducible refine (laws_heldMatrix.calls kj61 t346 _ _ t362 1 t363 _ ?side1 ?side2 A93.out).mono ?_); (case side1 => repeat (first | exact (Kd.R_reads' HO_352001.out).2.2 | (with_reducible refine Kd.CqA ?_ _) | (with_reducible refine Kd.CqN ?_ _) | (with_reducible refine Kd.CqD ?_))); (case side2 => rw [show t362.length = t347.length from (Kd.R_reads' HO_352001.out).1.symm]; exact (Kd.R_reads' HO_352001.out).2.1); rintro e w101 ⟨rfl, hb⟩; refine ⟨_, rfl, ?_⟩; have n0_ := Aq.mk (Kd.R_below (by (with_reducible repeat (first | apply Kd.RqA | apply Kd.RqN | apply Kd.RqD)); exact HO_341001.out) hb); have n1_ := Aq.mk (Kd.R_below (by (with_reducible repeat (first | apply Kd.RqA | apply Kd.RqN | apply Kd.RqD)); exact HO_346001.out) hb); have n2_ := Aq.mk (Kd.R_below (by (with_reducible repeat (first | apply Kd.RqA | apply Kd.RqN | apply Kd.RqD)); exact HO_352001.out) hb); have n3_ := Aq.mk (kQB (g := gb329) (o := .cells #[.int .i64 a0_0, .slice A0_1 l0_1.length c0_1] 24 (0, 0)) (by (with_reducible repeat (first | refine kQN ?_ _ | refine kQD ?_ | refine kQA ?_ _)); exact BK329.out) hb); have n4_ := Aq.mk (kQB (g := gb340) (o := .cells #[.int .i64 t335, .slice Ao22 t336.length co22] 26 (0, 0)) (by (with_reducible repeat (first | refine kQN ?_ _ | refine kQD ?_ | refine kQA ?_ _)); exact BK340.out) hb); have n5_ := Aq.mk (kQB (g := gb345) (o := .cells #[.int .i64 t341, .slice Ao29 t359.length co29] 26 (0, 0)) (by (with_reducible repeat (first | refine kQN ?_ _ | refine kQD ?_ | refine kQA ?_ _)); exact BK345.out) hb); have n6_ := Aq.mk (kQB (g := gb351) (o := .cells #[.int .i64 t346, .slice Ao38 t347.length co38] 26 (0, 0)) (by (with_reducible repeat (first | refine kQN ?_ _ | refine kQD ?_ | refine kQA ?_ _)); exact BK351.out) hb); have n7_ := Aq.mk (bQT (by repeat (first | (with_reducible first | exact HB.out | apply bQA | apply bQN | apply bQ1 | refine bQS ?_ GE329.out | refine bQS ?_ GE340.out | refine bQS ?_ GE345.out | refine bQS ?_ GE351.out) | exact HB.out)) hb); clear HO_341001; clear HO_346001; clear HO_352001; clear BK329; clear BK340; clear BK345; clear BK351; clear HB; have HO_341001 := n0_; have HO_346001 := n1_; have HO_352001 := n2_; have BK329 := n3_; have BK340 := n4_; have BK345 := n5_; have BK351 := n6_; have HB := n7_; clear n0_ n1_ n2_ n3_ n4_ n5_ n6_ n7_; (try clear hb); (try clear hb2); (try clear hk); (try clear hi)))
          go_ret
          exact ⟨by first | rfl | (simp [errW_none, errW_some] <;> rfl) | (simp [*, errW_none, errW_some] <;> rfl), by repeat (first | (with_reducible first | exact HB.out | apply bQA | apply bQN | apply bQ1 | refine bQS ?_ GE329.out | refine bQS ?_ GE340.out | refine bQS ?_ GE345.out | refine bQS ?_ GE351.out) | exact HB.out)⟩
         ·rw [if_neg c94] at H
          have c94b0 : decide (t363 < 0) = false := decide_eq_false c94
          clear c94
          (try (have c94b0z := c94b0; simp only [hl346001_61] at c94b0z))
          by_cases c102 : t363 = t361
          ·rw [if_pos c102] at H
           have c102b0 : (t363 == t361) = true := beq_iff_eq.mpr c102
           have c102b1 : (t363 != t361) = false := bne_eq_false_iff_eq.mpr c102
           clear c102
           (try (have c102b0z := c102b0; simp only [hl346001_61] at c102b0z))
           (try (have c102b1z := c102b1; simp only [hl346001_61] at c102b1z))
           replace H := Option.bind_eq_some_iff.mp H
           obtain ⟨⟨t364, t365⟩, A1030, H⟩ := H
           replace H : ((impl_InverseMatrix.f kj61 t364 t365).bind fun bt368 => ((laws_eqMatrix.f kj61 bt368.1 bt368.2.1 t335 t336).bind fun t374 => (if t374 = true then (laws_FnExactInverseMatrix.j2 kj61 t361 (bt368.2.2 != t339) t346 t362) else (laws_FnExactInverseMatrix.j2 kj61 t361 true t346 t362)))) = some r := H
           have A103 := Aq.mk A1030
           clear A1030
           replace H := Option.bind_eq_some_iff.mp H
           obtain ⟨⟨t368, t369, t372⟩, A1040, H⟩ := H
           replace H : ((laws_eqMatrix.f kj61 t368 t369 t335 t336).bind fun t374 => (if t374 = true then (laws_FnExactInverseMatrix.j2 kj61 t361 (t372 != t339) t346 t362) else (laws_FnExactInverseMatrix.j2 kj61 t361 true t346 t362))) = some r := H
           have A104 := Aq.mk A1040
           clear A1040
           have HC105 := Aq.mk H
           clear H
           have hnb106 := NB351_329.out
           have hnc106 := NB329_351.out
           have hnb107 := NB351_340.out
           have hnc107 := NB340_351.out
           have hnb108 := NB351_345.out
           have hnc108 := NB345_351.out
           have hcz109_0 : wc.cell? ⟨gb351, 0, none⟩ = some (.int .i64 t346) := (kQC BK351.out 0).trans rfl
           have hcz109_1 : wc.cell? ⟨gb351, 1, none⟩ = some (.slice Ao38 t347.length co38) := (kQC BK351.out 1).trans rfl
           have hfz109_0 := kQF BK351.out 0
           have hfz109_1 := kQF BK351.out 1
           go_upto_region 25 with (first | ((with_reducible refine gQc (f := 20) rfl ?_); refine goesL_ (some 64) rfl rfl Try.func20 (by kernel_rfl) rfl #[.agg #[.int .i64 t346, .slice Ao38 t347.length co38], .int .i64 1] rfl (by (try simp only [List.map_toArray, List.map_cons, List.map_nil]); first | done | rfl | (simp only [List.length_drop, List.length_take]; rfl)) ?_; (with_reducible refine (laws_markMatrix.calls kj61 t346 (fun k_ => some k_ = (.slice Ao38 t347.length co38 : Value).ownBlock) (.slice Ao38 t347.length co38) t347 1 t361 t362 w _ ?side1 ?side2 A92.out).mono ?_); (case side1 => repeat (first | (with_reducible first | exact HB.out | apply bQA | apply bQN | apply bQ1 | refine bQS ?_ GE329.out | refine bQS ?_ GE340.out | refine bQS ?_ GE345.out | refine bQS ?_ GE351.out) | exact HB.out)); (case side2 => exact Kd.R_tight rfl HO_352001.out); rintro e w110 ⟨rfl, hy0, hb, hkp⟩; refine ⟨_, rfl, ?_⟩; have n0_ := Aq.mk (Kd.R_mono (ok' := fun k_ => some k_ ≠ (.slice Ao29 t359.length co29 : Value).ownBlock ∧ some k_ ≠ (.slice Ao38 t347.length co38 : Value).ownBlock) (Kd.R_keptB (HO_341001.out) hkp (fun k_ hk_ hs_ => (hk_.2) hs_)) (fun k_ hk_ => ⟨hk_.1.1, hk_.1.2⟩)); have n1_ := Aq.mk (Kd.R_mono (ok' := fun k_ => some k_ ≠ (.slice Ao22 t336.length co22 : Value).ownBlock ∧ some k_ ≠ (.slice Ao38 t347.length co38 : Value).ownBlock) (Kd.R_keptB (HO_346001.out) hkp (fun k_ hk_ hs_ => (hk_.2) hs_)) (fun k_ hk_ => ⟨hk_.1.1, hk_.1.2⟩)); have n2_ := Aq.mk (Kd.R_reok rfl hy0 (fun k_ e_ => HO_352001.out.1 k_ e_)); have n3_ := Aq.mk (blk_kept (by (with_reducible repeat (first | refine kQN ?_ _ | refine kQD ?_ | refine kQA ?_ _)); exact BK329.out) hkp (fun hs_ => (fun e_ => (Kd.R_ne HO_352001.out BK329.out (by decide)) e_) hs_)); have n4_ := Aq.mk (blk_kept (by (with_reducible repeat (first | refine kQN ?_ _ | refine kQD ?_ | refine kQA ?_ _)); exact BK340.out) hkp (fun hs_ => (fun e_ => (Kd.R_ne HO_352001.out BK340.out (by decide)) e_) hs_)); have n5_ := Aq.mk (blk_kept (by (with_reducible repeat (first | refine kQN ?_ _ | refine kQD ?_ | refine kQA ?_ _)); exact BK345.out) hkp (fun hs_ => (fun e_ => (Kd.R_ne HO_352001.out BK345.out (by decide)) e_) hs_)); have n6_ := Aq.mk (blk_kept (by (with_reducible repeat (first | refine kQN ?_ _ | refine kQD ?_ | refine kQA ?_ _)); exact BK351.out) hkp (fun hs_ => (fun e_ => (Kd.R_ne HO_352001.out BK351.out (by decide)) e_) hs_)); have n7_ := Aq.mk (hb); clear HO_341001; clear HO_346001; clear HO_352001; clear BK329; clear BK340; clear BK345; clear BK351; clear HB; have HO_341001 := n0_; have HO_346001 := n1_; have HO_352001 := n2_; have BK329 := n3_; have BK340 := n4_; have BK345 := n5_; have BK351 := n6_; have HB := n7_; clear n0_ n1_ n2_ n3_ n4_ n5_ n6_ n7_; (try clear hb); (try clear hkp); (try clear hy0); have hcz111_0 : w110.cell? ⟨gb351, 0, none⟩ = some (.int .i64 t346) := (kQC BK351.out 0).trans rfl; have hcz111_1 : w110.cell? ⟨gb351, 1, none⟩ = some (.slice Ao38 t347.length co38) := (kQC BK351.out 1).trans rfl; have hfz111_0 := kQF BK351.out 0; have hfz111_1 := kQF BK351.out 1) | ((with_reducible refine gQc (f := 21) rfl ?_); refine goesL_ (some 67) rfl rfl Try.func21 (by kernel_rfl) rfl #[.agg #[.int .i64 t346, .slice Ao38 t362.length co38], .int .i64 1] rfl (by (try simp only [List.map_toArray, List.map_cons, List.map_nil]); first | done | (rw [show t362.length = t347.length from (Kd.R_reads' HO_352001.out).1.symm] <;> rfl) | rfl | (simp only [List.length_drop, List.length_take]; rfl)) ?_; (with_reducible refine (laws_heldMatrix.calls kj61 t346 _ _ t362 1 t363 _ ?side1 ?side2 A93.out).mono ?_); (case side1 => repeat (first | exact (Kd.R_reads' HO_352001.out).2.2 | (with_reducible refine Kd.CqA ?_ _) | (with_reducible refine Kd.CqN ?_ _) | (with_reducible refine Kd.CqD ?_))); (case side2 => rw [show t362.length = t347.length from (Kd.R_reads' HO_352001.out).1.symm]; exact (Kd.R_reads' HO_352001.out).2.1); rintro e w112 ⟨rfl, hb⟩; refine ⟨_, rfl, ?_⟩; have n0_ := Aq.mk (Kd.R_below (by (with_reducible repeat (first | apply Kd.RqA | apply Kd.RqN | apply Kd.RqD)); exact HO_341001.out) hb); have n1_ := Aq.mk (Kd.R_below (by (with_reducible repeat (first | apply Kd.RqA | apply Kd.RqN | apply Kd.RqD)); exact HO_346001.out) hb); have n2_ := Aq.mk (Kd.R_below (by (with_reducible repeat (first | apply Kd.RqA | apply Kd.RqN | apply Kd.RqD)); exact HO_352001.out) hb); have n3_ := Aq.mk (kQB (g := gb329) (o := .cells #[.int .i64 a0_0, .slice A0_1 l0_1.length c0_1] 24 (0, 0)) (by (with_reducible repeat (first | refine kQN ?_ _ | refine kQD ?_ | refine kQA ?_ _)); exact BK329.out) hb); have n4_ := Aq.mk (kQB (g := gb340) (o := .cells #[.int .i64 t335, .slice Ao22 t336.length co22] 26 (0, 0)) (by (with_reducible repeat (first | refine kQN ?_ _ | refine kQD ?_ | refine kQA ?_ _)); exact BK340.out) hb); have n5_ := Aq.mk (kQB (g := gb345) (o := .cells #[.int .i64 t341, .slice Ao29 t359.length co29] 26 (0, 0)) (by (with_reducible repeat (first | refine kQN ?_ _ | refine kQD ?_ | refine kQA ?_ _)); exact BK345.out) hb); have n6_ := Aq.mk (kQB (g := gb351) (o := .cells #[.int .i64 t346, .slice Ao38 t347.length co38] 26 (0, 0)) (by (with_reducible repeat (first | refine kQN ?_ _ | refine kQD ?_ | refine kQA ?_ _)); exact BK351.out) hb); have n7_ := Aq.mk (bQT (by repeat (first | (with_reducible first | exact HB.out | apply bQA | apply bQN | apply bQ1 | refine bQS ?_ GE329.out | refine bQS ?_ GE340.out | refine bQS ?_ GE345.out | refine bQS ?_ GE351.out) | exact HB.out)) hb); clear HO_341001; clear HO_346001; clear HO_352001; clear BK329; clear BK340; clear BK345; clear BK351; clear HB; have HO_341001 := n0_; have HO_346001 := n1_; have HO_352001 := n2_; have BK329 := n3_; have BK340 := n4_; have BK345 := n5_; have BK351 := n6_; have HB := n7_; clear n0_ n1_ n2_ n3_ n4_ n5_ n6_ n7_; (try clear hb); (try clear hb2); (try clear hk); (try clear hi); have hnb113 := NB329_340.out; have hnc113 := NB340_329.out; have hnb114 := NB329_345.out; have hnc114 := NB345_329.out; have hcz115_0 : w112.cell? ⟨gb329, 0, none⟩ = some (.int .i64 a0_0) := (kQC BK329.out 0).trans rfl; have hcz115_1 : w112.cell? ⟨gb329, 1, none⟩ = some (.slice A0_1 l0_1.length c0_1) := (kQC BK329.out 1).trans rfl; have hfz115_0 := kQF BK329.out 0; have hfz115_1 := kQF BK329.out 1) | ((with_reducible refine gQc (f := 17) rfl ?_); refine goesL_ (some 75) rfl rfl Try.func17 (by kernel_rfl) rfl #[.agg #[.int .i64 a0_0, .slice A0_1 l0_1.length c0_1]] rfl (by (try simp only [List.map_toArray, List.map_cons, List.map_nil]); first | done | rfl | (simp only [List.length_drop, List.length_take]; rfl)) ?_; (with_reducible refine (laws_toMatrix.calls kj61 a0_0 _ _ l0_1 t364 t365 _ ?side1 ?side2 A103.out).mono ?_); (case side1 => repeat (first | exact (Kd.C_below HR0_1.out HB.out) | (with_reducible refine Kd.CqA ?_ _) | (with_reducible refine Kd.CqN ?_ _) | (with_reducible refine Kd.CqD ?_))); (case side2 => exact HC0_1.out); rintro e w116 ⟨v366, rfl, ho0, hb⟩; refine ⟨_, rfl, ?_⟩; have n0_ := Aq.mk (Kd.R_elder' (by (with_reducible repeat (first | apply Kd.RqA | apply Kd.RqN | apply Kd.RqD)); exact HO_341001.out) (Kd.R_base ho0) hb); have n1_ := Aq.mk (Kd.R_elder' (by (with_reducible repeat (first | apply Kd.RqA | apply Kd.RqN | apply Kd.RqD)); exact HO_346001.out) (Kd.R_base ho0) hb); have n2_ := Aq.mk (Kd.R_elder' (by (with_reducible repeat (first | apply Kd.RqA | apply Kd.RqN | apply Kd.RqD)); exact HO_352001.out) (Kd.R_base ho0) hb); have n3_ := Aq.mk (Kd.R_lower (Kd.R_new' (Kd.R_new' (Kd.R_new' ho0 (Kd.R_lt (by (with_reducible repeat (first | apply Kd.RqA | apply Kd.RqN | apply Kd.RqD)); exact HO_341001.out))) (Kd.R_lt (by (with_reducible repeat (first | apply Kd.RqA | apply Kd.RqN | apply Kd.RqD)); exact HO_346001.out))) (Kd.R_lt (by (with_reducible repeat (first | apply Kd.RqA | apply Kd.RqN | apply Kd.RqD)); exact HO_352001.out))) (bQZ (by repeat (first | (with_reducible first | exact HB.out | apply bQA | apply bQN | apply bQ1 | refine bQS ?_ GE329.out | refine bQS ?_ GE340.out | refine bQS ?_ GE345.out | refine bQS ?_ GE351.out) | exact HB.out)))); have n4_ := Aq.mk (kQB (g := gb329) (o := .cells #[.int .i64 a0_0, .slice A0_1 l0_1.length c0_1] 24 (0, 0)) (by (with_reducible repeat (first | refine kQN ?_ _ | refine kQD ?_ | refine kQA ?_ _)); exact BK329.out) hb); have n5_ := Aq.mk (kQB (g := gb340) (o := .cells #[.int .i64 t335, .slice Ao22 t336.length co22] 26 (0, 0)) (by (with_reducible repeat (first | refine kQN ?_ _ | refine kQD ?_ | refine kQA ?_ _)); exact BK340.out) hb); have n6_ := Aq.mk (kQB (g := gb345) (o := .cells #[.int .i64 t341, .slice Ao29 t359.length co29] 26 (0, 0)) (by (with_reducible repeat (first | refine kQN ?_ _ | refine kQD ?_ | refine kQA ?_ _)); exact BK345.out) hb); have n7_ := Aq.mk (kQB (g := gb351) (o := .cells #[.int .i64 t346, .slice Ao38 t347.length co38] 26 (0, 0)) (by (with_reducible repeat (first | refine kQN ?_ _ | refine kQD ?_ | refine kQA ?_ _)); exact BK351.out) hb); have n8_ := Aq.mk (bQT (by repeat (first | (with_reducible first | exact HB.out | apply bQA | apply bQN | apply bQ1 | refine bQS ?_ GE329.out | refine bQS ?_ GE340.out | refine bQS ?_ GE345.out | refine bQS ?_ GE351.out) | exact HB.out)) hb); clear HO_341001; clear HO_346001; clear HO_352001; clear BK329; clear BK340; clear BK345; clear BK351; clear HB; have HO_341001 := n0_; have HO_346001 := n1_; have HO_352001 := n2_; have HO367 := n3_; have BK329 := n4_; have BK340 := n5_; have BK345 := n6_; have BK351 := n7_; have HB := n8_; clear n0_ n1_ n2_ n3_ n4_ n5_ n6_ n7_ n8_; (try clear hb); (try clear hb2); (try clear hk); (try clear hi); (try clear ho0); obtain ⟨Ao117, co117, eo117⟩ := Kd.R_slice HO367.out; subst eo117) | ((with_reducible refine gQc (f := 23) rfl ?_); refine goesL_ (some 76) rfl rfl Try.func23 (by kernel_rfl) rfl #[.agg #[.int .i64 t364, .slice Ao117 t365.length co117]] rfl (by (try simp only [List.map_toArray, List.map_cons, List.map_nil]); first | done | rfl | (simp only [List.length_drop, List.length_take]; rfl)) ?_; (with_reducible refine (impl_InverseMatrix.calls kj61 t364 (fun k_ => some k_ = (.slice Ao117 t365.length co117 : Value).ownBlock) _ _ t365 t368 t369 t372 _ ?side1 A104.out).mono ?_); (case side1 => exact Kd.R_V (Kd.R_tight rfl (Kd.R_types (Kd.R_types (Kd.R_types (Kd.R_types (HO367.out) BK329.out (by decide)) BK340.out (by decide)) BK345.out (by decide)) BK351.out (by decide)))); rintro e w118 ⟨v370, rfl, ho0, hb⟩; refine ⟨_, rfl, ?_⟩; have n0_ := Aq.mk (Kd.R_elder' (by (with_reducible repeat (first | apply Kd.RqA | apply Kd.RqN | apply Kd.RqD)); exact HO_341001.out) (Kd.R_base ho0) hb); have n1_ := Aq.mk (Kd.R_elder' (by (with_reducible repeat (first | apply Kd.RqA | apply Kd.RqN | apply Kd.RqD)); exact HO_346001.out) (Kd.R_base ho0) hb); have n2_ := Aq.mk (Kd.R_elder' (by (with_reducible repeat (first | apply Kd.RqA | apply Kd.RqN | apply Kd.RqD)); exact HO_352001.out) (Kd.R_base ho0) hb); have n3_ := Aq.mk (Kd.R_elder' (by (with_reducible repeat (first | apply Kd.RqA | apply Kd.RqN | apply Kd.RqD)); exact HO367.out) (Kd.R_base ho0) hb); have n4_ := Aq.mk (Kd.R_lower (Kd.R_new' (Kd.R_new' (Kd.R_new' (Kd.R_new' (Kd.R_mono (ok' := fun k_ => True) ho0 (fun _ hk_ => trivial)) (Kd.R_lt (by (with_reducible repeat (first | apply Kd.RqA | apply Kd.RqN | apply Kd.RqD)); exact HO_341001.out))) (Kd.R_lt (by (with_reducible repeat (first | apply Kd.RqA | apply Kd.RqN | apply Kd.RqD)); exact HO_346001.out))) (Kd.R_lt (by (with_reducible repeat (first | apply Kd.RqA | apply Kd.RqN | apply Kd.RqD)); exact HO_352001.out))) (Kd.R_lt (by (with_reducible repeat (first | apply Kd.RqA | apply Kd.RqN | apply Kd.RqD)); exact HO367.out))) (bQZ (by repeat (first | (with_reducible first | exact HB.out | apply bQA | apply bQN | apply bQ1 | refine bQS ?_ GE329.out | refine bQS ?_ GE340.out | refine bQS ?_ GE345.out | refine bQS ?_ GE351.out) | exact HB.out)))); have n5_ := Aq.mk (kQB (g := gb329) (o := .cells #[.int .i64 a0_0, .slice A0_1 l0_1.length c0_1] 24 (0, 0)) (by (with_reducible repeat (first | refine kQN ?_ _ | refine kQD ?_ | refine kQA ?_ _)); exact BK329.out) hb); have n6_ := Aq.mk (kQB (g := gb340) (o := .cells #[.int .i64 t335, .slice Ao22 t336.length co22] 26 (0, 0)) (by (with_reducible repeat (first | refine kQN ?_ _ | refine kQD ?_ | refine kQA ?_ _)); exact BK340.out) hb); have n7_ := Aq.mk (kQB (g := gb345) (o := .cells #[.int .i64 t341, .slice Ao29 t359.length co29] 26 (0, 0)) (by (with_reducible repeat (first | refine kQN ?_ _ | refine kQD ?_ | refine kQA ?_ _)); exact BK345.out) hb); have n8_ := Aq.mk (kQB (g := gb351) (o := .cells #[.int .i64 t346, .slice Ao38 t347.length co38] 26 (0, 0)) (by (with_reducible repeat (first | refine kQN ?_ _ | refine kQD ?_ | refine kQA ?_ _)); exact BK351.out) hb); have n9_ := Aq.mk (bQT (by repeat (first | (with_reducible first | exact HB.out | apply bQA | apply bQN | apply bQ1 | refine bQS ?_ GE329.out | refine bQS ?_ GE340.out | refine bQS ?_ GE345.out | refine bQS ?_ GE351.out) | exact HB.out)) hb); clear HO_341001; clear HO_346001; clear HO_352001; clear HO367; clear BK329; clear BK340; clear BK345; clear BK351; clear HB; have HO_341001 := n0_; have HO_346001 := n1_; have HO_352001 := n2_; have HO367 := n3_; have HO371 := n4_; have BK329 := n5_; have BK340 := n6_; have BK345 := n7_; have BK351 := n8_; have HB := n9_; clear n0_ n1_ n2_ n3_ n4_ n5_ n6_ n7_ n8_ n9_; (try clear hb); (try clear hb2); (try clear hk); (try clear hi); (try clear ho0)) | ((with_reducible refine gQd (N := 12) rfl ?_); refine xQe ?hg (N := 12) ?hd (cs := #[.int .i64 0, .slice none 0 0]) (t := 26) ?hr ?_; (case hd => rfl); (case hg => rfl); (case hr => first | (go_simp; done) | (go_simp; rfl)); intro gb373 hg w119 hbox hb; have n0_ := Aq.mk (Kd.R_below (by (with_reducible repeat (first | apply Kd.RqA | apply Kd.RqN | apply Kd.RqD)); exact HO_341001.out) hb); have n1_ := Aq.mk (Kd.R_below (by (with_reducible repeat (first | apply Kd.RqA | apply Kd.RqN | apply Kd.RqD)); exact HO_346001.out) hb); have n2_ := Aq.mk (Kd.R_below (by (with_reducible repeat (first | apply Kd.RqA | apply Kd.RqN | apply Kd.RqD)); exact HO_352001.out) hb); have n3_ := Aq.mk (Kd.R_below (by (with_reducible repeat (first | apply Kd.RqA | apply Kd.RqN | apply Kd.RqD)); exact HO367.out) hb); have n4_ := Aq.mk (Kd.R_below (by (with_reducible repeat (first | apply Kd.RqA | apply Kd.RqN | apply Kd.RqD)); exact HO371.out) hb); have n5_ := Aq.mk (kQB (g := gb329) (o := .cells #[.int .i64 a0_0, .slice A0_1 l0_1.length c0_1] 24 (0, 0)) (by (with_reducible repeat (first | refine kQN ?_ _ | refine kQD ?_ | refine kQA ?_ _)); exact BK329.out) hb); have n6_ := Aq.mk (kQB (g := gb340) (o := .cells #[.int .i64 t335, .slice Ao22 t336.length co22] 26 (0, 0)) (by (with_reducible repeat (first | refine kQN ?_ _ | refine kQD ?_ | refine kQA ?_ _)); exact BK340.out) hb); have n7_ := Aq.mk (kQB (g := gb345) (o := .cells #[.int .i64 t341, .slice Ao29 t359.length co29] 26 (0, 0)) (by (with_reducible repeat (first | refine kQN ?_ _ | refine kQD ?_ | refine kQA ?_ _)); exact BK345.out) hb); have n8_ := Aq.mk (kQB (g := gb351) (o := .cells #[.int .i64 t346, .slice Ao38 t347.length co38] 26 (0, 0)) (by (with_reducible repeat (first | refine kQN ?_ _ | refine kQD ?_ | refine kQA ?_ _)); exact BK351.out) hb); have n9_ := Aq.mk (bQT (by repeat (first | (with_reducible first | exact HB.out | apply bQA | apply bQN | apply bQ1 | refine bQS ?_ GE329.out | refine bQS ?_ GE340.out | refine bQS ?_ GE345.out | refine bQS ?_ GE351.out) | exact HB.out)) hb); have n10_ := Aq.mk (hbox); have n11_ := Aq.mk ((by rw [hg]; exact (bQZ (by repeat (first | (with_reducible first | exact HB.out | apply bQA | apply bQN | apply bQ1 | refine bQS ?_ GE329.out | refine bQS ?_ GE340.out | refine bQS ?_ GE345.out | refine bQS ?_ GE351.out) | exact HB.out))) : w.heap.size ≤ gb373)); have n12_ := Aq.mk ((by rw [hg]; exact (bQZ (by repeat (first | (with_reducible first | exact HB.out | apply bQA | apply bQN | apply bQ1 | refine bQS ?_ GE329.out | refine bQS ?_ GE340.out | refine bQS ?_ GE345.out | refine bQS ?_ GE351.out) | exact HB.out))) : w.heap.size ≤ gb373)); have n13_ := Aq.mk ((by rw [hg]; exact Nat.ne_of_lt (blk_lt (g := gb329) (o := .cells #[.int .i64 a0_0, .slice A0_1 l0_1.length c0_1] 24 (0, 0)) (by (with_reducible repeat (first | refine kQN ?_ _ | refine kQD ?_ | refine kQA ?_ _)); exact BK329.out)) : gb329 ≠ gb373)); have n14_ := Aq.mk ((by rw [hg]; exact Nat.ne_of_gt (blk_lt (g := gb329) (o := .cells #[.int .i64 a0_0, .slice A0_1 l0_1.length c0_1] 24 (0, 0)) (by (with_reducible repeat (first | refine kQN ?_ _ | refine kQD ?_ | refine kQA ?_ _)); exact BK329.out)) : gb373 ≠ gb329)); have n15_ := Aq.mk ((by rw [hg]; exact Nat.ne_of_lt (blk_lt (g := gb340) (o := .cells #[.int .i64 t335, .slice Ao22 t336.length co22] 26 (0, 0)) (by (with_reducible repeat (first | refine kQN ?_ _ | refine kQD ?_ | refine kQA ?_ _)); exact BK340.out)) : gb340 ≠ gb373)); have n16_ := Aq.mk ((by rw [hg]; exact Nat.ne_of_gt (blk_lt (g := gb340) (o := .cells #[.int .i64 t335, .slice Ao22 t336.length co22] 26 (0, 0)) (by (with_reducible repeat (first | refine kQN ?_ _ | refine kQD ?_ | refine kQA ?_ _)); exact BK340.out)) : gb373 ≠ gb340)); have n17_ := Aq.mk ((by rw [hg]; exact Nat.ne_of_lt (blk_lt (g := gb345) (o := .cells #[.int .i64 t341, .slice Ao29 t359.length co29] 26 (0, 0)) (by (with_reducible repeat (first | refine kQN ?_ _ | refine kQD ?_ | refine kQA ?_ _)); exact BK345.out)) : gb345 ≠ gb373)); have n18_ := Aq.mk ((by rw [hg]; exact Nat.ne_of_gt (blk_lt (g := gb345) (o := .cells #[.int .i64 t341, .slice Ao29 t359.length co29] 26 (0, 0)) (by (with_reducible repeat (first | refine kQN ?_ _ | refine kQD ?_ | refine kQA ?_ _)); exact BK345.out)) : gb373 ≠ gb345)); have n19_ := Aq.mk ((by rw [hg]; exact Nat.ne_of_lt (blk_lt (g := gb351) (o := .cells #[.int .i64 t346, .slice Ao38 t347.length co38] 26 (0, 0)) (by (with_reducible repeat (first | refine kQN ?_ _ | refine kQD ?_ | refine kQA ?_ _)); exact BK351.out)) : gb351 ≠ gb373)); have n20_ := Aq.mk ((by rw [hg]; exact Nat.ne_of_gt (blk_lt (g := gb351) (o := .cells #[.int .i64 t346, .slice Ao38 t347.length co38] 26 (0, 0)) (by (with_reducible repeat (first | refine kQN ?_ _ | refine kQD ?_ | refine kQA ?_ _)); exact BK351.out)) : gb373 ≠ gb351)); clear HO_341001; clear HO_346001; clear HO_352001; clear HO367; clear HO371; clear BK329; clear BK340; clear BK345; clear BK351; clear HB; have HO_341001 := n0_; have HO_346001 := n1_; have HO_352001 := n2_; have HO367 := n3_; have HO371 := n4_; have BK329 := n5_; have BK340 := n6_; have BK345 := n7_; have BK351 := n8_; have HB := n9_; have BK373 := n10_; have GW373 := n11_; have GE373 := n12_; have NB329_373 := n13_; have NB373_329 := n14_; have NB340_373 := n15_; have NB373_340 := n16_; have NB345_373 := n17_; have NB373_345 := n18_; have NB351_373 := n19_; have NB373_351 := n20_; clear n0_ n1_ n2_ n3_ n4_ n5_ n6_ n7_ n8_ n9_ n10_ n11_ n12_ n13_ n14_ n15_ n16_ n17_ n18_ n19_ n20_; clear hb hbox hg; have hnb120 := NB373_329.out; have hnc120 := NB329_373.out; have hnb121 := NB373_340.out; have hnc121 := NB340_373.out; have hnb122 := NB373_345.out; have hnc122 := NB345_373.out; have hnb123 := NB373_351.out; have hnc123 := NB351_373.out; have hcz124_0 : w119.cell? ⟨gb373, 0, none⟩ = some (.int .i64 0) := (kQC BK373.out 0).trans rfl; have hcz124_1 : w119.cell? ⟨gb373, 1, none⟩ = some (.slice none 0 0) := (kQC BK373.out 1).trans rfl; have hfz124_0 := kQF BK373.out 0; have hfz124_1 := kQF BK373.out 1; obtain ⟨Ao125, co125, eo125⟩ := Kd.R_slice HO371.out; subst eo125))
           (try simp only [Act.put, qSa, qSb, qSc])
           go_cut [87] (fun v87 wc => ∃ (kq : Nat) (x87_104 : Bool), v87 = .bool x87_104 ∧ Aq (laws_FnExactInverseMatrix.j2 kq t361 x87_104 t346 t362 = some r) ∧ Aq (kq ≤ kj61) ∧ Aq (Kd.R (Kd.int .i64) 2 wc w.heap.size (fun k_ => some k_ ≠ ((.slice Ao29 t359.length co29) : Value).ownBlock ∧ some k_ ≠ ((.slice Ao38 t347.length co38) : Value).ownBlock ∧ some k_ ≠ ((.slice Ao125 t369.length co125) : Value).ownBlock) (.slice Ao22 t336.length co22) t336) ∧ Aq (Kd.R (Kd.int .i64) 2 wc w.heap.size (fun k_ => some k_ ≠ ((.slice Ao22 t336.length co22) : Value).ownBlock ∧ some k_ ≠ ((.slice Ao38 t347.length co38) : Value).ownBlock ∧ some k_ ≠ ((.slice Ao125 t369.length co125) : Value).ownBlock) (.slice Ao29 t359.length co29) t359) ∧ Aq (Kd.R (Kd.int .i64) 2 wc w.heap.size (fun k_ => some k_ ≠ ((.slice Ao22 t336.length co22) : Value).ownBlock ∧ some k_ ≠ ((.slice Ao29 t359.length co29) : Value).ownBlock ∧ some k_ ≠ ((.slice Ao125 t369.length co125) : Value).ownBlock) (.slice Ao38 t347.length co38) t362) ∧ Aq (Kd.R (Kd.int .i64) 2 wc w.heap.size (fun k_ => some k_ ≠ ((.slice Ao22 t336.length co22) : Value).ownBlock ∧ some k_ ≠ ((.slice Ao29 t359.length co29) : Value).ownBlock ∧ some k_ ≠ ((.slice Ao38 t347.length co38) : Value).ownBlock) (.slice Ao125 t369.length co125) t369) ∧ Aq (wc.heap[gb329]? = some (.cells #[.int .i64 a0_0, (.slice A0_1 l0_1.length c0_1)] 24 (0, 0))) ∧ Aq (wc.heap[gb340]? = some (.cells #[.int .i64 t335, (.slice Ao22 t336.length co22)] 26 (0, 0))) ∧ Aq (wc.heap[gb345]? = some (.cells #[.int .i64 t341, (.slice Ao29 t359.length co29)] 26 (0, 0))) ∧ Aq (wc.heap[gb351]? = some (.cells #[.int .i64 t346, (.slice Ao38 t347.length co38)] 26 (0, 0))) ∧ Aq (wc.heap[gb373]? = some (.cells #[.int .i64 t368, (.slice Ao125 t369.length co125)] 26 (0, 0))) ∧ Aq (Below w.heap.size w wc))
           case first =>
            have H := HC105.out
            clear HC105
            replace H := Option.bind_eq_some_iff.mp H
            obtain ⟨t374, A1260, H⟩ := H
            replace H : (if t374 = true then (laws_FnExactInverseMatrix.j2 kj61 t361 (t372 != t339) t346 t362) else (laws_FnExactInverseMatrix.j2 kj61 t361 true t346 t362)) = some r := H
            have A126 := Aq.mk A1260
            clear A1260
            by_cases c127 : t374 = true
            ·subst c127
             have H1 : (laws_FnExactInverseMatrix.j2 kj61 t361 (t372 != t339) t346 t362) = some r := by rw [if_pos rfl] at H; exact H
             clear H
             have H := H1
             clear H1
             have H' := Aq.mk H
             clear H
             have hnb128 := NB373_329.out
             have hnc128 := NB329_373.out
             have hnb129 := NB373_340.out
             have hnc129 := NB340_373.out
             have hnb130 := NB373_345.out
             have hnc130 := NB345_373.out
             have hnb131 := NB373_351.out
             have hnc131 := NB351_373.out
             have hcz132_0 : w119.cell? ⟨gb373, 0, none⟩ = some (.int .i64 0) := (kQC BK373.out 0).trans rfl
             have hcz132_1 : w119.cell? ⟨gb373, 1, none⟩ = some (.slice none 0 0) := (kQC BK373.out 1).trans rfl
             have hfz132_0 := kQF BK373.out 0
             have hfz132_1 := kQF BK373.out 1
             have hnb133 := NB340_329.out
             have hnc133 := NB329_340.out
             have hnb134 := NB340_345.out
             have hnc134 := NB345_340.out
             have hnb135 := NB340_351.out
             have hnc135 := NB351_340.out
             have hcz136_0 : w119.cell? ⟨gb340, 0, none⟩ = some (.int .i64 t335) := (kQC BK340.out 0).trans rfl
             have hcz136_1 : w119.cell? ⟨gb340, 1, none⟩ = some (.slice Ao22 t336.length co22) := (kQC BK340.out 1).trans rfl
             have hfz136_0 := kQF BK340.out 0
             have hfz136_1 := kQF BK340.out 1
             go_wp2_with (first | ((with_reducible refine gQc (f := 19) rfl ?_); refine goesL_ (some 81) rfl rfl Try.func19 (by kernel_rfl) rfl #[.agg #[.int .i64 t368, .slice Ao125 t369.length co125], .agg #[.int .i64 t335, .slice Ao22 t336.length co22]] rfl (by (try simp only [List.map_toArray, List.map_cons, List.map_nil]); first | done | rfl | (simp only [List.length_drop, List.length_take]; rfl)) ?_; (with_reducible refine (laws_eqMatrix.calls kj61 t368 _ _ t369 t335 _ _ t336 true _ ?side1 ?side2 ?side3 ?side4 A126.out).mono ?_); (case side1 => refine (Kd.R_reads' (e := 2) (base := w.heap.size) (ok := fun k_ => ((((True ∧ some k_ ≠ (.slice Ao22 t336.length co22 : Value).ownBlock) ∧ some k_ ≠ (.slice Ao29 t359.length co29 : Value).ownBlock) ∧ some k_ ≠ (.slice Ao38 t347.length co38 : Value).ownBlock) ∧ some k_ ≠ (.slice Ao117 t365.length co117 : Value).ownBlock)) (n := t369.length) (c := co125) ?_).2.2; exact (by (with_reducible repeat (first | apply Kd.RqA | apply Kd.RqN | apply Kd.RqD)); exact (Kd.R_mono (Kd.R_far (p := ⟨gb373, 1, none⟩) (Kd.R_far (p := ⟨gb373, 0, none⟩) (Kd.R_types HO371.out BK373.out (by decide)) (fun _ hk => hk.2) (.int .i64 t368)) (fun _ hk => hk.2) (.slice Ao125 t369.length co125)) (fun _ h_ => h_.1)))); (case side2 => exact (Kd.R_reads' HO371.out).2.1); (case side3 => refine (Kd.R_reads' (e := 2) (base := w.heap.size) (ok := fun k_ => (((some k_ ≠ (.slice Ao29 t359.length co29 : Value).ownBlock ∧ some k_ ≠ (.slice Ao38 t347.length co38 : Value).ownBlock) ∧ some k_ ≠ (.slice Ao117 t365.length co117 : Value).ownBlock) ∧ some k_ ≠ (.slice Ao125 t369.length co125 : Value).ownBlock)) (n := t336.length) (c := co22) ?_).2.2; exact (by (with_reducible repeat (first | apply Kd.RqA | apply Kd.RqN | apply Kd.RqD)); exact (Kd.R_mono (Kd.R_far (p := ⟨gb373, 1, none⟩) (Kd.R_far (p := ⟨gb373, 0, none⟩) (Kd.R_types HO_341001.out BK373.out (by decide)) (fun _ hk => hk.2) (.int .i64 t368)) (fun _ hk => hk.2) (.slice Ao125 t369.length co125)) (fun _ h_ => h_.1)))); (case side4 => exact (Kd.R_reads' HO_341001.out).2.1); rintro e w137 ⟨rfl, hb⟩; refine ⟨_, rfl, ?_⟩; have n0_ := Aq.mk (Kd.R_below (by (with_reducible repeat (first | apply Kd.RqA | apply Kd.RqN | apply Kd.RqD)); exact (Kd.R_mono (Kd.R_far (p := ⟨gb373, 1, none⟩) (Kd.R_far (p := ⟨gb373, 0, none⟩) (Kd.R_types HO_341001.out BK373.out (by decide)) (fun _ hk => hk.2) (.int .i64 t368)) (fun _ hk => hk.2) (.slice Ao125 t369.length co125)) (fun _ h_ => h_.1))) hb); have n1_ := Aq.mk (Kd.R_below (by (with_reducible repeat (first | apply Kd.RqA | apply Kd.RqN | apply Kd.RqD)); exact (Kd.R_mono (Kd.R_far (p := ⟨gb373, 1, none⟩) (Kd.R_far (p := ⟨gb373, 0, none⟩) (Kd.R_types HO_346001.out BK373.out (by decide)) (fun _ hk => hk.2) (.int .i64 t368)) (fun _ hk => hk.2) (.slice Ao125 t369.length co125)) (fun _ h_ => h_.1))) hb); have n2_ := Aq.mk (Kd.R_below (by (with_reducible repeat (first | apply Kd.RqA | apply Kd.RqN | apply Kd.RqD)); exact (Kd.R_mono (Kd.R_far (p := ⟨gb373, 1, none⟩) (Kd.R_far (p := ⟨gb373, 0, none⟩) (Kd.R_types HO_352001.out BK373.out (by decide)) (fun _ hk => hk.2) (.int .i64 t368)) (fun _ hk => hk.2) (.slice Ao125 t369.length co125)) (fun _ h_ => h_.1))) hb); have n3_ := Aq.mk (Kd.R_below (by (with_reducible repeat (first | apply Kd.RqA | apply Kd.RqN | apply Kd.RqD)); exact (Kd.R_mono (Kd.R_far (p := ⟨gb373, 1, none⟩) (Kd.R_far (p := ⟨gb373, 0, none⟩) (Kd.R_types HO367.out BK373.out (by decide)) (fun _ hk => hk.2) (.int .i64 t368)) (fun _ hk => hk.2) (.slice Ao125 t369.length co125)) (fun _ h_ => h_.1))) hb); have n4_ := Aq.mk (Kd.R_below (by (with_reducible repeat (first | apply Kd.RqA | apply Kd.RqN | apply Kd.RqD)); exact (Kd.R_mono (Kd.R_far (p := ⟨gb373, 1, none⟩) (Kd.R_far (p := ⟨gb373, 0, none⟩) (Kd.R_types HO371.out BK373.out (by decide)) (fun _ hk => hk.2) (.int .i64 t368)) (fun _ hk => hk.2) (.slice Ao125 t369.length co125)) (fun _ h_ => h_.1))) hb); have n5_ := Aq.mk (kQB (g := gb329) (o := .cells #[.int .i64 a0_0, .slice A0_1 l0_1.length c0_1] 24 (0, 0)) (by (with_reducible repeat (first | refine kQN ?_ _ | refine kQD ?_ | refine kQA ?_ _)); refine kQR ?_ NB329_373.out _; (with_reducible repeat (first | refine kQN ?_ _ | refine kQD ?_ | refine kQA ?_ _)); refine kQR ?_ NB329_373.out _; (with_reducible repeat (first | refine kQN ?_ _ | refine kQD ?_ | refine kQA ?_ _)); exact BK329.out) hb); have n6_ := Aq.mk (kQB (g := gb340) (o := .cells #[.int .i64 t335, .slice Ao22 t336.length co22] 26 (0, 0)) (by (with_reducible repeat (first | refine kQN ?_ _ | refine kQD ?_ | refine kQA ?_ _)); refine kQR ?_ NB340_373.out _; (with_reducible repeat (first | refine kQN ?_ _ | refine kQD ?_ | refine kQA ?_ _)); refine kQR ?_ NB340_373.out _; (with_reducible repeat (first | refine kQN ?_ _ | refine kQD ?_ | refine kQA ?_ _)); exact BK340.out) hb); have n7_ := Aq.mk (kQB (g := gb345) (o := .cells #[.int .i64 t341, .slice Ao29 t359.length co29] 26 (0, 0)) (by (with_reducible repeat (first | refine kQN ?_ _ | refine kQD ?_ | refine kQA ?_ _)); refine kQR ?_ NB345_373.out _; (with_reducible repeat (first | refine kQN ?_ _ | refine kQD ?_ | refine kQA ?_ _)); refine kQR ?_ NB345_373.out _; (with_reducible repeat (first | refine kQN ?_ _ | refine kQD ?_ | refine kQA ?_ _)); exact BK345.out) hb); have n8_ := Aq.mk (kQB (g := gb351) (o := .cells #[.int .i64 t346, .slice Ao38 t347.length co38] 26 (0, 0)) (by (with_reducible repeat (first | refine kQN ?_ _ | refine kQD ?_ | refine kQA ?_ _)); refine kQR ?_ NB351_373.out _; (with_reducible repeat (first | refine kQN ?_ _ | refine kQD ?_ | refine kQA ?_ _)); refine kQR ?_ NB351_373.out _; (with_reducible repeat (first | refine kQN ?_ _ | refine kQD ?_ | refine kQA ?_ _)); exact BK351.out) hb); have n9_ := Aq.mk (kQB (g := gb373) (o := .cells #[.int .i64 t368, .slice Ao125 t369.length co125] 26 (0, 0)) (by (with_reducible repeat (first | refine kQN ?_ _ | refine kQD ?_ | refine kQA ?_ _)); refine kQP (cs := #[.int .i64 t368, .slice none 0 0]) ?_ 1 _ rfl; (with_reducible repeat (first | refine kQN ?_ _ | refine kQD ?_ | refine kQA ?_ _)); refine kQP (cs := #[.int .i64 0, .slice none 0 0]) ?_ 0 _ rfl; (with_reducible repeat (first | refine kQN ?_ _ | refine kQD ?_ | refine kQA ?_ _)); exact BK373.out) hb); have n10_ := Aq.mk (bQT (by repeat (first | (with_reducible first | exact HB.out | apply bQA | apply bQN | apply bQ1 | refine bQS ?_ GE329.out | refine bQS ?_ GE340.out | refine bQS ?_ GE345.out | refine bQS ?_ GE351.out | refine bQS ?_ GE373.out) | exact HB.out)) hb); clear HO_341001; clear HO_346001; clear HO_352001; clear HO367; clear HO371; clear BK329; clear BK340; clear BK345; clear BK351; clear BK373; clear HB; have HO_341001 := n0_; have HO_346001 := n1_; have HO_352001 := n2_; have HO367 := n3_; have HO371 := n4_; have BK329 := n5_; have BK340 := n6_; have BK345 := n7_; have BK351 := n8_; have BK373 := n9_; have HB := n10_; clear n0_ n1_ n2_ n3_ n4_ n5_ n6_ n7_ n8_ n9_ n10_; (try clear hb); (try clear hb2); (try clear hk); (try clear hi)))
             go_meet
             case rel => exact ⟨_, ((t372 != t339)), (by first | rfl | (simp; done) | (simp [*]; done)), H', ⟨by have := HJ10.out; have := HJ61.out; first | omega | exact Nat.le_refl _⟩, ⟨by (try simp only [hl346001_61]); (with_reducible repeat (first | apply Kd.RqA | apply Kd.RqN | apply Kd.RqD)); exact Kd.R_mono HO_341001.out (fun _ hk => ⟨hk.1.1.1, ⟨hk.1.1.2, hk.2⟩⟩)⟩, ⟨by (try simp only [hl346001_61]); (with_reducible repeat (first | apply Kd.RqA | apply Kd.RqN | apply Kd.RqD)); exact Kd.R_mono HO_346001.out (fun _ hk => ⟨hk.1.1.1, ⟨hk.1.1.2, hk.2⟩⟩)⟩, ⟨by (try simp only [hl346001_61]); (with_reducible repeat (first | apply Kd.RqA | apply Kd.RqN | apply Kd.RqD)); exact Kd.R_mono HO_352001.out (fun _ hk => ⟨hk.1.1.1, ⟨hk.1.1.2, hk.2⟩⟩)⟩, ⟨by (try simp only [hl346001_61]); (with_reducible repeat (first | apply Kd.RqA | apply Kd.RqN | apply Kd.RqD)); exact Kd.R_mono HO371.out (fun _ hk => ⟨hk.1.1.1.2, ⟨hk.1.1.2, hk.1.2⟩⟩)⟩, ⟨by (try simp only [hl346001_61]); (with_reducible repeat (first | refine kQN ?_ _ | refine kQD ?_ | refine kQA ?_ _)); exact BK329.out⟩, ⟨by (try simp only [hl346001_61]); (with_reducible repeat (first | refine kQN ?_ _ | refine kQD ?_ | refine kQA ?_ _)); exact BK340.out⟩, ⟨by (try simp only [hl346001_61]); (with_reducible repeat (first | refine kQN ?_ _ | refine kQD ?_ | refine kQA ?_ _)); exact BK345.out⟩, ⟨by (try simp only [hl346001_61]); (with_reducible repeat (first | refine kQN ?_ _ | refine kQD ?_ | refine kQA ?_ _)); exact BK351.out⟩, ⟨by (try simp only [hl346001_61]); (with_reducible repeat (first | refine kQN ?_ _ | refine kQD ?_ | refine kQA ?_ _)); exact BK373.out⟩, ⟨by repeat (first | (with_reducible first | exact HB.out | apply bQA | apply bQN | apply bQ1 | refine bQS ?_ GE329.out | refine bQS ?_ GE340.out | refine bQS ?_ GE345.out | refine bQS ?_ GE351.out | refine bQS ?_ GE373.out) | exact HB.out)⟩⟩
            ·replace c127 := Bool.eq_false_iff.mpr c127
             subst c127
             have H1 : (laws_FnExactInverseMatrix.j2 kj61 t361 true t346 t362) = some r := by rw [if_neg (show ¬ (false = true) by decide)] at H; exact H
             clear H
             have H := H1
             clear H1
             have H' := Aq.mk H
             clear H
             have hnb138 := NB373_329.out
             have hnc138 := NB329_373.out
             have hnb139 := NB373_340.out
             have hnc139 := NB340_373.out
             have hnb140 := NB373_345.out
             have hnc140 := NB345_373.out
             have hnb141 := NB373_351.out
             have hnc141 := NB351_373.out
             have hcz142_0 : w119.cell? ⟨gb373, 0, none⟩ = some (.int .i64 0) := (kQC BK373.out 0).trans rfl
             have hcz142_1 : w119.cell? ⟨gb373, 1, none⟩ = some (.slice none 0 0) := (kQC BK373.out 1).trans rfl
             have hfz142_0 := kQF BK373.out 0
             have hfz142_1 := kQF BK373.out 1
             have hnb143 := NB340_329.out
             have hnc143 := NB329_340.out
             have hnb144 := NB340_345.out
             have hnc144 := NB345_340.out
             have hnb145 := NB340_351.out
             have hnc145 := NB351_340.out
             have hcz146_0 : w119.cell? ⟨gb340, 0, none⟩ = some (.int .i64 t335) := (kQC BK340.out 0).trans rfl
             have hcz146_1 : w119.cell? ⟨gb340, 1, none⟩ = some (.slice Ao22 t336.length co22) := (kQC BK340.out 1).trans rfl
             have hfz146_0 := kQF BK340.out 0
             have hfz146_1 := kQF BK340.out 1
             go_wp2_with (first | ((with_reducible refine gQc (f := 19) rfl ?_); refine goesL_ (some 81) rfl rfl Try.func19 (by kernel_rfl) rfl #[.agg #[.int .i64 t368, .slice Ao125 t369.length co125], .agg #[.int .i64 t335, .slice Ao22 t336.length co22]] rfl (by (try simp only [List.map_toArray, List.map_cons, List.map_nil]); first | done | rfl | (simp only [List.length_drop, List.length_take]; rfl)) ?_; (with_reducible refine (laws_eqMatrix.calls kj61 t368 _ _ t369 t335 _ _ t336 false _ ?side1 ?side2 ?side3 ?side4 A126.out).mono ?_); (case side1 => refine (Kd.R_reads' (e := 2) (base := w.heap.size) (ok := fun k_ => ((((True ∧ some k_ ≠ (.slice Ao22 t336.length co22 : Value).ownBlock) ∧ some k_ ≠ (.slice Ao29 t359.length co29 : Value).ownBlock) ∧ some k_ ≠ (.slice Ao38 t347.length co38 : Value).ownBlock) ∧ some k_ ≠ (.slice Ao117 t365.length co117 : Value).ownBlock)) (n := t369.length) (c := co125) ?_).2.2; exact (by (with_reducible repeat (first | apply Kd.RqA | apply Kd.RqN | apply Kd.RqD)); exact (Kd.R_mono (Kd.R_far (p := ⟨gb373, 1, none⟩) (Kd.R_far (p := ⟨gb373, 0, none⟩) (Kd.R_types HO371.out BK373.out (by decide)) (fun _ hk => hk.2) (.int .i64 t368)) (fun _ hk => hk.2) (.slice Ao125 t369.length co125)) (fun _ h_ => h_.1)))); (case side2 => exact (Kd.R_reads' HO371.out).2.1); (case side3 => refine (Kd.R_reads' (e := 2) (base := w.heap.size) (ok := fun k_ => (((some k_ ≠ (.slice Ao29 t359.length co29 : Value).ownBlock ∧ some k_ ≠ (.slice Ao38 t347.length co38 : Value).ownBlock) ∧ some k_ ≠ (.slice Ao117 t365.length co117 : Value).ownBlock) ∧ some k_ ≠ (.slice Ao125 t369.length co125 : Value).ownBlock)) (n := t336.length) (c := co22) ?_).2.2; exact (by (with_reducible repeat (first | apply Kd.RqA | apply Kd.RqN | apply Kd.RqD)); exact (Kd.R_mono (Kd.R_far (p := ⟨gb373, 1, none⟩) (Kd.R_far (p := ⟨gb373, 0, none⟩) (Kd.R_types HO_341001.out BK373.out (by decide)) (fun _ hk => hk.2) (.int .i64 t368)) (fun _ hk => hk.2) (.slice Ao125 t369.length co125)) (fun _ h_ => h_.1)))); (case side4 => exact (Kd.R_reads' HO_341001.out).2.1); rintro e w147 ⟨rfl, hb⟩; refine ⟨_, rfl, ?_⟩; have n0_ := Aq.mk (Kd.R_below (by (with_reducible repeat (first | apply Kd.RqA | apply Kd.RqN | apply Kd.RqD)); exact (Kd.R_mono (Kd.R_far (p := ⟨gb373, 1, none⟩) (Kd.R_far (p := ⟨gb373, 0, none⟩) (Kd.R_types HO_341001.out BK373.out (by decide)) (fun _ hk => hk.2) (.int .i64 t368)) (fun _ hk => hk.2) (.slice Ao125 t369.length co125)) (fun _ h_ => h_.1))) hb); have n1_ := Aq.mk (Kd.R_below (by (with_reducible repeat (first | apply Kd.RqA | apply Kd.RqN | apply Kd.RqD)); exact (Kd.R_mono (Kd.R_far (p := ⟨gb373, 1, none⟩) (Kd.R_far (p := ⟨gb373, 0, none⟩) (Kd.R_types HO_346001.out BK373.out (by decide)) (fun _ hk => hk.2) (.int .i64 t368)) (fun _ hk => hk.2) (.slice Ao125 t369.length co125)) (fun _ h_ => h_.1))) hb); have n2_ := Aq.mk (Kd.R_below (by (with_reducible repeat (first | apply Kd.RqA | apply Kd.RqN | apply Kd.RqD)); exact (Kd.R_mono (Kd.R_far (p := ⟨gb373, 1, none⟩) (Kd.R_far (p := ⟨gb373, 0, none⟩) (Kd.R_types HO_352001.out BK373.out (by decide)) (fun _ hk => hk.2) (.int .i64 t368)) (fun _ hk => hk.2) (.slice Ao125 t369.length co125)) (fun _ h_ => h_.1))) hb); have n3_ := Aq.mk (Kd.R_below (by (with_reducible repeat (first | apply Kd.RqA | apply Kd.RqN | apply Kd.RqD)); exact (Kd.R_mono (Kd.R_far (p := ⟨gb373, 1, none⟩) (Kd.R_far (p := ⟨gb373, 0, none⟩) (Kd.R_types HO367.out BK373.out (by decide)) (fun _ hk => hk.2) (.int .i64 t368)) (fun _ hk => hk.2) (.slice Ao125 t369.length co125)) (fun _ h_ => h_.1))) hb); have n4_ := Aq.mk (Kd.R_below (by (with_reducible repeat (first | apply Kd.RqA | apply Kd.RqN | apply Kd.RqD)); exact (Kd.R_mono (Kd.R_far (p := ⟨gb373, 1, none⟩) (Kd.R_far (p := ⟨gb373, 0, none⟩) (Kd.R_types HO371.out BK373.out (by decide)) (fun _ hk => hk.2) (.int .i64 t368)) (fun _ hk => hk.2) (.slice Ao125 t369.length co125)) (fun _ h_ => h_.1))) hb); have n5_ := Aq.mk (kQB (g := gb329) (o := .cells #[.int .i64 a0_0, .slice A0_1 l0_1.length c0_1] 24 (0, 0)) (by (with_reducible repeat (first | refine kQN ?_ _ | refine kQD ?_ | refine kQA ?_ _)); refine kQR ?_ NB329_373.out _; (with_reducible repeat (first | refine kQN ?_ _ | refine kQD ?_ | refine kQA ?_ _)); refine kQR ?_ NB329_373.out _; (with_reducible repeat (first | refine kQN ?_ _ | refine kQD ?_ | refine kQA ?_ _)); exact BK329.out) hb); have n6_ := Aq.mk (kQB (g := gb340) (o := .cells #[.int .i64 t335, .slice Ao22 t336.length co22] 26 (0, 0)) (by (with_reducible repeat (first | refine kQN ?_ _ | refine kQD ?_ | refine kQA ?_ _)); refine kQR ?_ NB340_373.out _; (with_reducible repeat (first | refine kQN ?_ _ | refine kQD ?_ | refine kQA ?_ _)); refine kQR ?_ NB340_373.out _; (with_reducible repeat (first | refine kQN ?_ _ | refine kQD ?_ | refine kQA ?_ _)); exact BK340.out) hb); have n7_ := Aq.mk (kQB (g := gb345) (o := .cells #[.int .i64 t341, .slice Ao29 t359.length co29] 26 (0, 0)) (by (with_reducible repeat (first | refine kQN ?_ _ | refine kQD ?_ | refine kQA ?_ _)); refine kQR ?_ NB345_373.out _; (with_reducible repeat (first | refine kQN ?_ _ | refine kQD ?_ | refine kQA ?_ _)); refine kQR ?_ NB345_373.out _; (with_reducible repeat (first | refine kQN ?_ _ | refine kQD ?_ | refine kQA ?_ _)); exact BK345.out) hb); have n8_ := Aq.mk (kQB (g := gb351) (o := .cells #[.int .i64 t346, .slice Ao38 t347.length co38] 26 (0, 0)) (by (with_reducible repeat (first | refine kQN ?_ _ | refine kQD ?_ | refine kQA ?_ _)); refine kQR ?_ NB351_373.out _; (with_reducible repeat (first | refine kQN ?_ _ | refine kQD ?_ | refine kQA ?_ _)); refine kQR ?_ NB351_373.out _; (with_reducible repeat (first | refine kQN ?_ _ | refine kQD ?_ | refine kQA ?_ _)); exact BK351.out) hb); have n9_ := Aq.mk (kQB (g := gb373) (o := .cells #[.int .i64 t368, .slice Ao125 t369.length co125] 26 (0, 0)) (by (with_reducible repeat (first | refine kQN ?_ _ | refine kQD ?_ | refine kQA ?_ _)); refine kQP (cs := #[.int .i64 t368, .slice none 0 0]) ?_ 1 _ rfl; (with_reducible repeat (first | refine kQN ?_ _ | refine kQD ?_ | refine kQA ?_ _)); refine kQP (cs := #[.int .i64 0, .slice none 0 0]) ?_ 0 _ rfl; (with_reducible repeat (first | refine kQN ?_ _ | refine kQD ?_ | refine kQA ?_ _)); exact BK373.out) hb); have n10_ := Aq.mk (bQT (by repeat (first | (with_reducible first | exact HB.out | apply bQA | apply bQN | apply bQ1 | refine bQS ?_ GE329.out | refine bQS ?_ GE340.out | refine bQS ?_ GE345.out | refine bQS ?_ GE351.out | refine bQS ?_ GE373.out) | exact HB.out)) hb); clear HO_341001; clear HO_346001; clear HO_352001; clear HO367; clear HO371; clear BK329; clear BK340; clear BK345; clear BK351; clear BK373; clear HB; have HO_341001 := n0_; have HO_346001 := n1_; have HO_352001 := n2_; have HO367 := n3_; have HO371 := n4_; have BK329 := n5_; have BK340 := n6_; have BK345 := n7_; have BK351 := n8_; have BK373 := n9_; have HB := n10_; clear n0_ n1_ n2_ n3_ n4_ n5_ n6_ n7_ n8_ n9_ n10_; (try clear hb); (try clear hb2); (try clear hk); (try clear hi)))
             go_meet
             case rel => exact ⟨_, (true), (by first | rfl | (simp; done) | (simp [*]; done)), H', ⟨by have := HJ10.out; have := HJ61.out; first | omega | exact Nat.le_refl _⟩, ⟨by (try simp only [hl346001_61]); (with_reducible repeat (first | apply Kd.RqA | apply Kd.RqN | apply Kd.RqD)); exact Kd.R_mono HO_341001.out (fun _ hk => ⟨hk.1.1.1, ⟨hk.1.1.2, hk.2⟩⟩)⟩, ⟨by (try simp only [hl346001_61]); (with_reducible repeat (first | apply Kd.RqA | apply Kd.RqN | apply Kd.RqD)); exact Kd.R_mono HO_346001.out (fun _ hk => ⟨hk.1.1.1, ⟨hk.1.1.2, hk.2⟩⟩)⟩, ⟨by (try simp only [hl346001_61]); (with_reducible repeat (first | apply Kd.RqA | apply Kd.RqN | apply Kd.RqD)); exact Kd.R_mono HO_352001.out (fun _ hk => ⟨hk.1.1.1, ⟨hk.1.1.2, hk.2⟩⟩)⟩, ⟨by (try simp only [hl346001_61]); (with_reducible repeat (first | apply Kd.RqA | apply Kd.RqN | apply Kd.RqD)); exact Kd.R_mono HO371.out (fun _ hk => ⟨hk.1.1.1.2, ⟨hk.1.1.2, hk.1.2⟩⟩)⟩, ⟨by (try simp only [hl346001_61]); (with_reducible repeat (first | refine kQN ?_ _ | refine kQD ?_ | refine kQA ?_ _)); exact BK329.out⟩, ⟨by (try simp only [hl346001_61]); (with_reducible repeat (first | refine kQN ?_ _ | refine kQD ?_ | refine kQA ?_ _)); exact BK340.out⟩, ⟨by (try simp only [hl346001_61]); (with_reducible repeat (first | refine kQN ?_ _ | refine kQD ?_ | refine kQA ?_ _)); exact BK345.out⟩, ⟨by (try simp only [hl346001_61]); (with_reducible repeat (first | refine kQN ?_ _ | refine kQD ?_ | refine kQA ?_ _)); exact BK351.out⟩, ⟨by (try simp only [hl346001_61]); (with_reducible repeat (first | refine kQN ?_ _ | refine kQD ?_ | refine kQA ?_ _)); exact BK373.out⟩, ⟨by repeat (first | (with_reducible first | exact HB.out | apply bQA | apply bQN | apply bQ1 | refine bQS ?_ GE329.out | refine bQS ?_ GE340.out | refine bQS ?_ GE345.out | refine bQS ?_ GE351.out | refine bQS ?_ GE373.out) | exact HB.out)⟩⟩
           case rest =>
            clear HC105
            try clear c1
            try clear c2
            try clear p2
            try clear c3
            try clear c3b0
            try clear c4
            try clear c5
            try clear c6
            try clear c7
            try clear c8
            try clear c9
            try clear c10
            try clear c11
            try clear c12
            try clear c13
            try clear c14
            try clear c15
            try clear c17
            try clear c19
            try clear c20
            try clear c21
            try clear c22
            try clear c23
            try clear c26
            try clear c27
            try clear c34
            try clear c35
            try clear c36
            try clear c40
            try clear c41
            try clear c42
            try clear c43
            try clear c45
            try clear c46
            try clear c49
            try clear c50
            try clear c51
            try clear c53
            try clear c54
            try clear c57
            try clear c60
            try clear c67
            try clear c68
            try clear c69
            try clear c72
            try clear c72b0
            try clear c74
            try clear c75
            try clear c76
            try clear c77
            try clear c79
            try clear c80
            try clear c83
            try clear c84
            try clear c85
            try clear c87
            try clear c88
            try clear c91
            try clear c94
            try clear c94b0
            try clear c95
            try clear c96
            try clear c97
            try clear c102
            try clear c102b0
            try clear c102b1
            try clear c106
            try clear c107
            try clear c108
            try clear c113
            try clear c114
            try clear c120
            try clear c121
            try clear c122
            try clear c123
            try clear c127
            try clear c128
            try clear c129
            try clear c130
            try clear c131
            try clear c133
            try clear c134
            try clear c135
            try clear c138
            try clear c139
            try clear c140
            try clear c141
            try clear c143
            try clear c144
            try clear c145
            try clear hcz100_0
            try clear hcz100_1
            try clear hcz109_0
            try clear hcz109_1
            try clear hcz111_0
            try clear hcz111_1
            try clear hcz115_0
            try clear hcz115_1
            try clear hcz124_0
            try clear hcz124_1
            try clear hcz132_0
            try clear hcz132_1
            try clear hcz136_0
            try clear hcz136_1
            try clear hcz13_0
            try clear hcz13_1
            try clear hcz142_0
            try clear hcz142_1
            try clear hcz146_0
            try clear hcz146_1
            try clear hcz15_0
            try clear hcz15_1
            try clear hcz21_0
            try clear hcz21_1
            try clear hcz23_0
            try clear hcz23_1
            try clear hcz28_0
            try clear hcz28_1
            try clear hcz31_0
            try clear hcz31_1
            try clear hcz37_0
            try clear hcz37_1
            try clear hcz44_0
            try clear hcz44_1
            try clear hcz47_0
            try clear hcz47_1
            try clear hcz52_0
            try clear hcz52_1
            try clear hcz55_0
            try clear hcz55_1
            try clear hcz5_0
            try clear hcz5_1
            try clear hcz70_0
            try clear hcz70_1
            try clear hcz78_0
            try clear hcz78_1
            try clear hcz81_0
            try clear hcz81_1
            try clear hcz86_0
            try clear hcz86_1
            try clear hcz89_0
            try clear hcz89_1
            try clear hcz98_0
            try clear hcz98_1
            try clear hfz100_0
            try clear hfz100_1
            try clear hfz109_0
            try clear hfz109_1
            try clear hfz111_0
            try clear hfz111_1
            try clear hfz115_0
            try clear hfz115_1
            try clear hfz124_0
            try clear hfz124_1
            try clear hfz132_0
            try clear hfz132_1
            try clear hfz136_0
            try clear hfz136_1
            try clear hfz13_0
            try clear hfz13_1
            try clear hfz142_0
            try clear hfz142_1
            try clear hfz146_0
            try clear hfz146_1
            try clear hfz15_0
            try clear hfz15_1
            try clear hfz21_0
            try clear hfz21_1
            try clear hfz23_0
            try clear hfz23_1
            try clear hfz28_0
            try clear hfz28_1
            try clear hfz31_0
            try clear hfz31_1
            try clear hfz37_0
            try clear hfz37_1
            try clear hfz44_0
            try clear hfz44_1
            try clear hfz47_0
            try clear hfz47_1
            try clear hfz52_0
            try clear hfz52_1
            try clear hfz55_0
            try clear hfz55_1
            try clear hfz5_0
            try clear hfz5_1
            try clear hfz70_0
            try clear hfz70_1
            try clear hfz78_0
            try clear hfz78_1
            try clear hfz81_0
            try clear hfz81_1
            try clear hfz86_0
            try clear hfz86_1
            try clear hfz89_0
            try clear hfz89_1
            try clear hfz98_0
            try clear hfz98_1
            try clear p2
            obtain ⟨kq, x87_104, rfl, HA, HJ104, HO_341001, HO_346001, HO_352001, HO_374001, BK329, BK340, BK345, BK351, BK373, HB⟩ := hcut
            have hl352001_104 := (Kd.R_reads' HO_352001.out).1
            rw [hl352001_104] at HO_352001
            (try simp only [hl352001_104])
            (try simp only [hl352001_104] at BK329)
            (try simp only [hl352001_104] at BK340)
            (try simp only [hl352001_104] at BK345)
            (try simp only [hl352001_104] at BK351)
            (try simp only [hl352001_104] at BK373)
            (try simp only [hl352001_104] at HO_341001)
            (try simp only [hl352001_104] at HO_346001)
            (try simp only [hl352001_104] at HO_374001)
            cases kq with
            | zero => exact absurd HA.out (by simp [laws_FnExactInverseMatrix.j2])
            | succ kj104 =>
             have H := HA.out
             clear HA
             simp only [laws_FnExactInverseMatrix.j2] at H
             by_cases c148 : x87_104 = true
             ·subst c148
              have H1 : (some false) = some r := by rw [if_pos rfl] at H; exact H
              clear H
              have H := H1
              clear H1
              obtain rfl := Option.some.inj H
              go_wp2
              go_ret
              exact ⟨by first | rfl | (simp [errW_none, errW_some] <;> rfl) | (simp [*, errW_none, errW_some] <;> rfl), by repeat (first | (with_reducible first | exact HB.out | apply bQA | apply bQN | apply bQ1 | refine bQS ?_ GE329.out | refine bQS ?_ GE340.out | refine bQS ?_ GE345.out | refine bQS ?_ GE351.out | refine bQS ?_ GE373.out) | exact HB.out)⟩
             ·replace c148 := Bool.eq_false_iff.mpr c148
              subst c148
              have H1 : ((laws_heldMatrix.f kj104 t346 t362 1).bind fun t375 => (if t375 < 0 then (some false) else (if t375 = t361 then (some true) else (some false)))) = some r := by rw [if_neg (show ¬ (false = true) by decide)] at H; exact H
              clear H
              have H := H1
              clear H1
              replace H := Option.bind_eq_some_iff.mp H
              obtain ⟨t375, A1490, H⟩ := H
              replace H : (if t375 < 0 then (some false) else (if t375 = t361 then (some true) else (some false))) = some r := H
              have A149 := Aq.mk A1490
              clear A1490
              by_cases c150 : t375 < 0
              ·rw [if_pos c150] at H
               have c150b0 : decide (t375 < 0) = true := decide_eq_true c150
               clear c150
               (try (have c150b0z := c150b0; simp only [hl346001_61, hl352001_104] at c150b0z))
               obtain rfl := Option.some.inj H
               have hnb151 := NB351_329.out
               have hnc151 := NB329_351.out
               have hnb152 := NB351_340.out
               have hnc152 := NB340_351.out
               have hnb153 := NB351_345.out
               have hnc153 := NB345_351.out
               have hnb154 := NB351_373.out
               have hnc154 := NB373_351.out
               have hcz155_0 : wc.cell? ⟨gb351, 0, none⟩ = some (.int .i64 t346) := (kQC BK351.out 0).trans rfl
               have hcz155_1 : wc.cell? ⟨gb351, 1, none⟩ = some (.slice Ao38 t362.length co38) := (kQC BK351.out 1).trans rfl
               have hfz155_0 := kQF BK351.out 0
               have hfz155_1 := kQF BK351.out 1
               go_wp2_with (first | ((with_reducible refine gQc (f := 21) rfl ?_); refine goesL_ (some 90) rfl rfl Try.func21 (by kernel_rfl) rfl #[.agg #[.int .i64 t346, .slice Ao38 t362.length co38], .int .i64 1] rfl (by (try simp only [List.map_toArray, List.map_cons, List.map_nil]); first | done | rfl | (simp only [List.length_drop, List.length_take]; rfl)) ?_; (with_reducible refine (laws_heldMatrix.calls kj104 t346 _ _ t362 1 t375 _ ?side1 ?side2 A149.out).mono ?_); (case side1 => repeat (first | exact (Kd.R_reads' HO_352001.out).2.2 | (with_reducible refine Kd.CqA ?_ _) | (with_reducible refine Kd.CqN ?_ _) | (with_reducible refine Kd.CqD ?_))); (case side2 => exact (Kd.R_reads' HO_352001.out).2.1); rintro e w156 ⟨rfl, hb⟩; refine ⟨_, rfl, ?_⟩; have n0_ := Aq.mk (Kd.R_below (by (with_reducible repeat (first | apply Kd.RqA | apply Kd.RqN | apply Kd.RqD)); exact HO_341001.out) hb); have n1_ := Aq.mk (Kd.R_below (by (with_reducible repeat (first | apply Kd.RqA | apply Kd.RqN | apply Kd.RqD)); exact HO_346001.out) hb); have n2_ := Aq.mk (Kd.R_below (by (with_reducible repeat (first | apply Kd.RqA | apply Kd.RqN | apply Kd.RqD)); exact HO_352001.out) hb); have n3_ := Aq.mk (Kd.R_below (by (with_reducible repeat (first | apply Kd.RqA | apply Kd.RqN | apply Kd.RqD)); exact HO_374001.out) hb); have n4_ := Aq.mk (kQB (g := gb329) (o := .cells #[.int .i64 a0_0, .slice A0_1 l0_1.length c0_1] 24 (0, 0)) (by (with_reducible repeat (first | refine kQN ?_ _ | refine kQD ?_ | refine kQA ?_ _)); exact BK329.out) hb); have n5_ := Aq.mk (kQB (g := gb340) (o := .cells #[.int .i64 t335, .slice Ao22 t336.length co22] 26 (0, 0)) (by (with_reducible repeat (first | refine kQN ?_ _ | refine kQD ?_ | refine kQA ?_ _)); exact BK340.out) hb); have n6_ := Aq.mk (kQB (g := gb345) (o := .cells #[.int .i64 t341, .slice Ao29 t359.length co29] 26 (0, 0)) (by (with_reducible repeat (first | refine kQN ?_ _ | refine kQD ?_ | refine kQA ?_ _)); exact BK345.out) hb); have n7_ := Aq.mk (kQB (g := gb351) (o := .cells #[.int .i64 t346, .slice Ao38 t362.length co38] 26 (0, 0)) (by (with_reducible repeat (first | refine kQN ?_ _ | refine kQD ?_ | refine kQA ?_ _)); exact BK351.out) hb); have n8_ := Aq.mk (kQB (g := gb373) (o := .cells #[.int .i64 t368, .slice Ao125 t369.length co125] 26 (0, 0)) (by (with_reducible repeat (first | refine kQN ?_ _ | refine kQD ?_ | refine kQA ?_ _)); exact BK373.out) hb); have n9_ := Aq.mk (bQT (by repeat (first | (with_reducible first | exact HB.out | apply bQA | apply bQN | apply bQ1 | refine bQS ?_ GE329.out | refine bQS ?_ GE340.out | refine bQS ?_ GE345.out | refine bQS ?_ GE351.out | refine bQS ?_ GE373.out) | exact HB.out)) hb); clear HO_341001; clear HO_346001; clear HO_352001; clear HO_374001; clear BK329; clear BK340; clear BK345; clear BK351; clear BK373; clear HB; have HO_341001 := n0_; have HO_346001 := n1_; have HO_352001 := n2_; have HO_374001 := n3_; have BK329 := n4_; have BK340 := n5_; have BK345 := n6_; have BK351 := n7_; have BK373 := n8_; have HB := n9_; clear n0_ n1_ n2_ n3_ n4_ n5_ n6_ n7_ n8_ n9_; (try clear hb); (try clear hb2); (try clear hk); (try clear hi)))
               go_ret
               exact ⟨by first | rfl | (simp [errW_none, errW_some] <;> rfl) | (simp [*, errW_none, errW_some] <;> rfl), by repeat (first | (with_reducible first | exact HB.out | apply bQA | apply bQN | apply bQ1 | refine bQS ?_ GE329.out | refine bQS ?_ GE340.out | refine bQS ?_ GE345.out | refine bQS ?_ GE351.out | refine bQS ?_ GE373.out) | exact HB.out)⟩
              ·rw [if_neg c150] at H
               have c150b0 : decide (t375 < 0) = false := decide_eq_false c150
               clear c150
               (try (have c150b0z := c150b0; simp only [hl346001_61, hl352001_104] at c150b0z))
               by_cases c157 : t375 = t361
               ·rw [if_pos c157] at H
                have c157b0 : (t375 == t361) = true := beq_iff_eq.mpr c157
                have c157b1 : (t375 != t361) = false := bne_eq_false_iff_eq.mpr c157
                clear c157
                (try (have c157b0z := c157b0; simp only [hl346001_61, hl352001_104] at c157b0z))
                (try (have c157b1z := c157b1; simp only [hl346001_61, hl352001_104] at c157b1z))
                obtain rfl := Option.some.inj H
                have hnb158 := NB351_329.out
                have hnc158 := NB329_351.out
                have hnb159 := NB351_340.out
                have hnc159 := NB340_351.out
                have hnb160 := NB351_345.out
                have hnc160 := NB345_351.out
                have hnb161 := NB351_373.out
                have hnc161 := NB373_351.out
                have hcz162_0 : wc.cell? ⟨gb351, 0, none⟩ = some (.int .i64 t346) := (kQC BK351.out 0).trans rfl
                have hcz162_1 : wc.cell? ⟨gb351, 1, none⟩ = some (.slice Ao38 t362.length co38) := (kQC BK351.out 1).trans rfl
                have hfz162_0 := kQF BK351.out 0
                have hfz162_1 := kQF BK351.out 1
                go_wp2_with (first | ((with_reducible refine gQc (f := 21) rfl ?_); refine goesL_ (some 90) rfl rfl Try.func21 (by kernel_rfl) rfl #[.agg #[.int .i64 t346, .slice Ao38 t362.length co38], .int .i64 1] rfl (by (try simp only [List.map_toArray, List.map_cons, List.map_nil]); first | done | rfl | (simp only [List.length_drop, List.length_take]; rfl)) ?_; (with_reducible refine (laws_heldMatrix.calls kj104 t346 _ _ t362 1 t375 _ ?side1 ?side2 A149.out).mono ?_); (case side1 => repeat (first | exact (Kd.R_reads' HO_352001.out).2.2 | (with_reducible refine Kd.CqA ?_ _) | (with_reducible refine Kd.CqN ?_ _) | (with_reducible refine Kd.CqD ?_))); (case side2 => exact (Kd.R_reads' HO_352001.out).2.1); rintro e w163 ⟨rfl, hb⟩; refine ⟨_, rfl, ?_⟩; have n0_ := Aq.mk (Kd.R_below (by (with_reducible repeat (first | apply Kd.RqA | apply Kd.RqN | apply Kd.RqD)); exact HO_341001.out) hb); have n1_ := Aq.mk (Kd.R_below (by (with_reducible repeat (first | apply Kd.RqA | apply Kd.RqN | apply Kd.RqD)); exact HO_346001.out) hb); have n2_ := Aq.mk (Kd.R_below (by (with_reducible repeat (first | apply Kd.RqA | apply Kd.RqN | apply Kd.RqD)); exact HO_352001.out) hb); have n3_ := Aq.mk (Kd.R_below (by (with_reducible repeat (first | apply Kd.RqA | apply Kd.RqN | apply Kd.RqD)); exact HO_374001.out) hb); have n4_ := Aq.mk (kQB (g := gb329) (o := .cells #[.int .i64 a0_0, .slice A0_1 l0_1.length c0_1] 24 (0, 0)) (by (with_reducible repeat (first | refine kQN ?_ _ | refine kQD ?_ | refine kQA ?_ _)); exact BK329.out) hb); have n5_ := Aq.mk (kQB (g := gb340) (o := .cells #[.int .i64 t335, .slice Ao22 t336.length co22] 26 (0, 0)) (by (with_reducible repeat (first | refine kQN ?_ _ | refine kQD ?_ | refine kQA ?_ _)); exact BK340.out) hb); have n6_ := Aq.mk (kQB (g := gb345) (o := .cells #[.int .i64 t341, .slice Ao29 t359.length co29] 26 (0, 0)) (by (with_reducible repeat (first | refine kQN ?_ _ | refine kQD ?_ | refine kQA ?_ _)); exact BK345.out) hb); have n7_ := Aq.mk (kQB (g := gb351) (o := .cells #[.int .i64 t346, .slice Ao38 t362.length co38] 26 (0, 0)) (by (with_reducible repeat (first | refine kQN ?_ _ | refine kQD ?_ | refine kQA ?_ _)); exact BK351.out) hb); have n8_ := Aq.mk (kQB (g := gb373) (o := .cells #[.int .i64 t368, .slice Ao125 t369.length co125] 26 (0, 0)) (by (with_reducible repeat (first | refine kQN ?_ _ | refine kQD ?_ | refine kQA ?_ _)); exact BK373.out) hb); have n9_ := Aq.mk (bQT (by repeat (first | (with_reducible first | exact HB.out | apply bQA | apply bQN | apply bQ1 | refine bQS ?_ GE329.out | refine bQS ?_ GE340.out | refine bQS ?_ GE345.out | refine bQS ?_ GE351.out | refine bQS ?_ GE373.out) | exact HB.out)) hb); clear HO_341001; clear HO_346001; clear HO_352001; clear HO_374001; clear BK329; clear BK340; clear BK345; clear BK351; clear BK373; clear HB; have HO_341001 := n0_; have HO_346001 := n1_; have HO_352001 := n2_; have HO_374001 := n3_; have BK329 := n4_; have BK340 := n5_; have BK345 := n6_; have BK351 := n7_; have BK373 := n8_; have HB := n9_; clear n0_ n1_ n2_ n3_ n4_ n5_ n6_ n7_ n8_ n9_; (try clear hb); (try clear hb2); (try clear hk); (try clear hi)))
                go_ret
                exact ⟨by first | rfl | (simp [errW_none, errW_some] <;> rfl) | (simp [*, errW_none, errW_some] <;> rfl), by repeat (first | (with_reducible first | exact HB.out | apply bQA | apply bQN | apply bQ1 | refine bQS ?_ GE329.out | refine bQS ?_ GE340.out | refine bQS ?_ GE345.out | refine bQS ?_ GE351.out | refine bQS ?_ GE373.out) | exact HB.out)⟩
               ·rw [if_neg c157] at H
                have c157b0 : (t375 == t361) = false := beq_eq_false_iff_ne.mpr c157
                have c157b1 : (t375 != t361) = true := bne_iff_ne.mpr c157
                (try (have c157b0z := c157b0; simp only [hl346001_61, hl352001_104] at c157b0z))
                (try (have c157b1z := c157b1; simp only [hl346001_61, hl352001_104] at c157b1z))
                obtain rfl := Option.some.inj H
                have hnb164 := NB351_329.out
                have hnc164 := NB329_351.out
                have hnb165 := NB351_340.out
                have hnc165 := NB340_351.out
                have hnb166 := NB351_345.out
                have hnc166 := NB345_351.out
                have hnb167 := NB351_373.out
                have hnc167 := NB373_351.out
                have hcz168_0 : wc.cell? ⟨gb351, 0, none⟩ = some (.int .i64 t346) := (kQC BK351.out 0).trans rfl
                have hcz168_1 : wc.cell? ⟨gb351, 1, none⟩ = some (.slice Ao38 t362.length co38) := (kQC BK351.out 1).trans rfl
                have hfz168_0 := kQF BK351.out 0
                have hfz168_1 := kQF BK351.out 1
                go_wp2_with (first | ((with_reducible refine gQc (f := 21) rfl ?_); refine goesL_ (some 90) rfl rfl Try.func21 (by kernel_rfl) rfl #[.agg #[.int .i64 t346, .slice Ao38 t362.length co38], .int .i64 1] rfl (by (try simp only [List.map_toArray, List.map_cons, List.map_nil]); first | done | rfl | (simp only [List.length_drop, List.length_take]; rfl)) ?_; (with_reducible refine (laws_heldMatrix.calls kj104 t346 _ _ t362 1 t375 _ ?side1 ?side2 A149.out).mono ?_); (case side1 => repeat (first | exact (Kd.R_reads' HO_352001.out).2.2 | (with_reducible refine Kd.CqA ?_ _) | (with_reducible refine Kd.CqN ?_ _) | (with_reducible refine Kd.CqD ?_))); (case side2 => exact (Kd.R_reads' HO_352001.out).2.1); rintro e w169 ⟨rfl, hb⟩; refine ⟨_, rfl, ?_⟩; have n0_ := Aq.mk (Kd.R_below (by (with_reducible repeat (first | apply Kd.RqA | apply Kd.RqN | apply Kd.RqD)); exact HO_341001.out) hb); have n1_ := Aq.mk (Kd.R_below (by (with_reducible repeat (first | apply Kd.RqA | apply Kd.RqN | apply Kd.RqD)); exact HO_346001.out) hb); have n2_ := Aq.mk (Kd.R_below (by (with_reducible repeat (first | apply Kd.RqA | apply Kd.RqN | apply Kd.RqD)); exact HO_352001.out) hb); have n3_ := Aq.mk (Kd.R_below (by (with_reducible repeat (first | apply Kd.RqA | apply Kd.RqN | apply Kd.RqD)); exact HO_374001.out) hb); have n4_ := Aq.mk (kQB (g := gb329) (o := .cells #[.int .i64 a0_0, .slice A0_1 l0_1.length c0_1] 24 (0, 0)) (by (with_reducible repeat (first | refine kQN ?_ _ | refine kQD ?_ | refine kQA ?_ _)); exact BK329.out) hb); have n5_ := Aq.mk (kQB (g := gb340) (o := .cells #[.int .i64 t335, .slice Ao22 t336.length co22] 26 (0, 0)) (by (with_reducible repeat (first | refine kQN ?_ _ | refine kQD ?_ | refine kQA ?_ _)); exact BK340.out) hb); have n6_ := Aq.mk (kQB (g := gb345) (o := .cells #[.int .i64 t341, .slice Ao29 t359.length co29] 26 (0, 0)) (by (with_reducible repeat (first | refine kQN ?_ _ | refine kQD ?_ | refine kQA ?_ _)); exact BK345.out) hb); have n7_ := Aq.mk (kQB (g := gb351) (o := .cells #[.int .i64 t346, .slice Ao38 t362.length co38] 26 (0, 0)) (by (with_reducible repeat (first | refine kQN ?_ _ | refine kQD ?_ | refine kQA ?_ _)); exact BK351.out) hb); have n8_ := Aq.mk (kQB (g := gb373) (o := .cells #[.int .i64 t368, .slice Ao125 t369.length co125] 26 (0, 0)) (by (with_reducible repeat (first | refine kQN ?_ _ | refine kQD ?_ | refine kQA ?_ _)); exact BK373.out) hb); have n9_ := Aq.mk (bQT (by repeat (first | (with_reducible first | exact HB.out | apply bQA | apply bQN | apply bQ1 | refine bQS ?_ GE329.out | refine bQS ?_ GE340.out | refine bQS ?_ GE345.out | refine bQS ?_ GE351.out | refine bQS ?_ GE373.out) | exact HB.out)) hb); clear HO_341001; clear HO_346001; clear HO_352001; clear HO_374001; clear BK329; clear BK340; clear BK345; clear BK351; clear BK373; clear HB; have HO_341001 := n0_; have HO_346001 := n1_; have HO_352001 := n2_; have HO_374001 := n3_; have BK329 := n4_; have BK340 := n5_; have BK345 := n6_; have BK351 := n7_; have BK373 := n8_; have HB := n9_; clear n0_ n1_ n2_ n3_ n4_ n5_ n6_ n7_ n8_ n9_; (try clear hb); (try clear hb2); (try clear hk); (try clear hi)))
                go_ret
                exact ⟨by first | rfl | (simp [errW_none, errW_some] <;> rfl) | (simp [*, errW_none, errW_some] <;> rfl), by repeat (first | (with_reducible first | exact HB.out | apply bQA | apply bQN | apply bQ1 | refine bQS ?_ GE329.out | refine bQS ?_ GE340.out | refine bQS ?_ GE345.out | refine bQS ?_ GE351.out | refine bQS ?_ GE373.out) | exact HB.out)⟩
          ·rw [if_neg c102] at H
           have c102b0 : (t363 == t361) = false := beq_eq_false_iff_ne.mpr c102
           have c102b1 : (t363 != t361) = true := bne_iff_ne.mpr c102
           (try (have c102b0z := c102b0; simp only [hl346001_61] at c102b0z))
           (try (have c102b1z := c102b1; simp only [hl346001_61] at c102b1z))
           obtain rfl := Option.some.inj H
           have hnb170 := NB351_329.out
           have hnc170 := NB329_351.out
           have hnb171 := NB351_340.out
           have hnc171 := NB340_351.out
           have hnb172 := NB351_345.out
           have hnc172 := NB345_351.out
           have hcz173_0 : wc.cell? ⟨gb351, 0, none⟩ = some (.int .i64 t346) := (kQC BK351.out 0).trans rfl
           have hcz173_1 : wc.cell? ⟨gb351, 1, none⟩ = some (.slice Ao38 t347.length co38) := (kQC BK351.out 1).trans rfl
           have hfz173_0 := kQF BK351.out 0
           have hfz173_1 := kQF BK351.out 1
           go_wp2_with (first | ((with_reducible refine gQc (f := 20) rfl ?_); refine goesL_ (some 64) rfl rfl Try.func20 (by kernel_rfl) rfl #[.agg #[.int .i64 t346, .slice Ao38 t347.length co38], .int .i64 1] rfl (by (try simp only [List.map_toArray, List.map_cons, List.map_nil]); first | done | rfl | (simp only [List.length_drop, List.length_take]; rfl)) ?_; (with_reducible refine (laws_markMatrix.calls kj61 t346 (fun k_ => some k_ = (.slice Ao38 t347.length co38 : Value).ownBlock) (.slice Ao38 t347.length co38) t347 1 t361 t362 w _ ?side1 ?side2 A92.out).mono ?_); (case side1 => repeat (first | (with_reducible first | exact HB.out | apply bQA | apply bQN | apply bQ1 | refine bQS ?_ GE329.out | refine bQS ?_ GE340.out | refine bQS ?_ GE345.out | refine bQS ?_ GE351.out) | exact HB.out)); (case side2 => exact Kd.R_tight rfl HO_352001.out); rintro e w174 ⟨rfl, hy0, hb, hkp⟩; refine ⟨_, rfl, ?_⟩; have n0_ := Aq.mk (Kd.R_mono (ok' := fun k_ => some k_ ≠ (.slice Ao29 t359.length co29 : Value).ownBlock ∧ some k_ ≠ (.slice Ao38 t347.length co38 : Value).ownBlock) (Kd.R_keptB (HO_341001.out) hkp (fun k_ hk_ hs_ => (hk_.2) hs_)) (fun k_ hk_ => ⟨hk_.1.1, hk_.1.2⟩)); have n1_ := Aq.mk (Kd.R_mono (ok' := fun k_ => some k_ ≠ (.slice Ao22 t336.length co22 : Value).ownBlock ∧ some k_ ≠ (.slice Ao38 t347.length co38 : Value).ownBlock) (Kd.R_keptB (HO_346001.out) hkp (fun k_ hk_ hs_ => (hk_.2) hs_)) (fun k_ hk_ => ⟨hk_.1.1, hk_.1.2⟩)); have n2_ := Aq.mk (Kd.R_reok rfl hy0 (fun k_ e_ => HO_352001.out.1 k_ e_)); have n3_ := Aq.mk (blk_kept (by (with_reducible repeat (first | refine kQN ?_ _ | refine kQD ?_ | refine kQA ?_ _)); exact BK329.out) hkp (fun hs_ => (fun e_ => (Kd.R_ne HO_352001.out BK329.out (by decide)) e_) hs_)); have n4_ := Aq.mk (blk_kept (by (with_reducible repeat (first | refine kQN ?_ _ | refine kQD ?_ | refine kQA ?_ _)); exact BK340.out) hkp (fun hs_ => (fun e_ => (Kd.R_ne HO_352001.out BK340.out (by decide)) e_) hs_)); have n5_ := Aq.mk (blk_kept (by (with_reducible repeat (first | refine kQN ?_ _ | refine kQD ?_ | refine kQA ?_ _)); exact BK345.out) hkp (fun hs_ => (fun e_ => (Kd.R_ne HO_352001.out BK345.out (by decide)) e_) hs_)); have n6_ := Aq.mk (blk_kept (by (with_reducible repeat (first | refine kQN ?_ _ | refine kQD ?_ | refine kQA ?_ _)); exact BK351.out) hkp (fun hs_ => (fun e_ => (Kd.R_ne HO_352001.out BK351.out (by decide)) e_) hs_)); have n7_ := Aq.mk (hb); clear HO_341001; clear HO_346001; clear HO_352001; clear BK329; clear BK340; clear BK345; clear BK351; clear HB; have HO_341001 := n0_; have HO_346001 := n1_; have HO_352001 := n2_; have BK329 := n3_; have BK340 := n4_; have BK345 := n5_; have BK351 := n6_; have HB := n7_; clear n0_ n1_ n2_ n3_ n4_ n5_ n6_ n7_; (try clear hb); (try clear hkp); (try clear hy0); have hcz175_0 : w174.cell? ⟨gb351, 0, none⟩ = some (.int .i64 t346) := (kQC BK351.out 0).trans rfl; have hcz175_1 : w174.cell? ⟨gb351, 1, none⟩ = some (.slice Ao38 t347.length co38) := (kQC BK351.out 1).trans rfl; have hfz175_0 := kQF BK351.out 0; have hfz175_1 := kQF BK351.out 1) | ((with_reducible refine gQc (f := 21) rfl ?_); refine goesL_ (some 67) rfl rfl Try.func21 (by kernel_rfl) rfl #[.agg #[.int .i64 t346, .slice Ao38 t362.length co38], .int .i64 1] rfl (by (try simp only [List.map_toArray, List.map_cons, List.map_nil]); first | done | (rw [show t362.length = t347.length from (Kd.R_reads' HO_352001.out).1.symm] <;> rfl) | rfl | (simp only [List.length_drop, List.length_take]; rfl)) ?_; (with_reducible refine (laws_heldMatrix.calls kj61 t346 _ _ t362 1 t363 _ ?side1 ?side2 A93.out).mono ?_); (case side1 => repeat (first | exact (Kd.R_reads' HO_352001.out).2.2 | (with_reducible refine Kd.CqA ?_ _) | (with_reducible refine Kd.CqN ?_ _) | (with_reducible refine Kd.CqD ?_))); (case side2 => rw [show t362.length = t347.length from (Kd.R_reads' HO_352001.out).1.symm]; exact (Kd.R_reads' HO_352001.out).2.1); rintro e w176 ⟨rfl, hb⟩; refine ⟨_, rfl, ?_⟩; have n0_ := Aq.mk (Kd.R_below (by (with_reducible repeat (first | apply Kd.RqA | apply Kd.RqN | apply Kd.RqD)); exact HO_341001.out) hb); have n1_ := Aq.mk (Kd.R_below (by (with_reducible repeat (first | apply Kd.RqA | apply Kd.RqN | apply Kd.RqD)); exact HO_346001.out) hb); have n2_ := Aq.mk (Kd.R_below (by (with_reducible repeat (first | apply Kd.RqA | apply Kd.RqN | apply Kd.RqD)); exact HO_352001.out) hb); have n3_ := Aq.mk (kQB (g := gb329) (o := .cells #[.int .i64 a0_0, .slice A0_1 l0_1.length c0_1] 24 (0, 0)) (by (with_reducible repeat (first | refine kQN ?_ _ | refine kQD ?_ | refine kQA ?_ _)); exact BK329.out) hb); have n4_ := Aq.mk (kQB (g := gb340) (o := .cells #[.int .i64 t335, .slice Ao22 t336.length co22] 26 (0, 0)) (by (with_reducible repeat (first | refine kQN ?_ _ | refine kQD ?_ | refine kQA ?_ _)); exact BK340.out) hb); have n5_ := Aq.mk (kQB (g := gb345) (o := .cells #[.int .i64 t341, .slice Ao29 t359.length co29] 26 (0, 0)) (by (with_reducible repeat (first | refine kQN ?_ _ | refine kQD ?_ | refine kQA ?_ _)); exact BK345.out) hb); have n6_ := Aq.mk (kQB (g := gb351) (o := .cells #[.int .i64 t346, .slice Ao38 t347.length co38] 26 (0, 0)) (by (with_reducible repeat (first | refine kQN ?_ _ | refine kQD ?_ | refine kQA ?_ _)); exact BK351.out) hb); have n7_ := Aq.mk (bQT (by repeat (first | (with_reducible first | exact HB.out | apply bQA | apply bQN | apply bQ1 | refine bQS ?_ GE329.out | refine bQS ?_ GE340.out | refine bQS ?_ GE345.out | refine bQS ?_ GE351.out) | exact HB.out)) hb); clear HO_341001; clear HO_346001; clear HO_352001; clear BK329; clear BK340; clear BK345; clear BK351; clear HB; have HO_341001 := n0_; have HO_346001 := n1_; have HO_352001 := n2_; have BK329 := n3_; have BK340 := n4_; have BK345 := n5_; have BK351 := n6_; have HB := n7_; clear n0_ n1_ n2_ n3_ n4_ n5_ n6_ n7_; (try clear hb); (try clear hb2); (try clear hk); (try clear hi)))
           go_ret
           exact ⟨by first | rfl | (simp [errW_none, errW_some] <;> rfl) | (simp [*, errW_none, errW_some] <;> rfl), by repeat (first | (with_reducible first | exact HB.out | apply bQA | apply bQN | apply bQ1 | refine bQS ?_ GE329.out | refine bQS ?_ GE340.out | refine bQS ?_ GE345.out | refine bQS ?_ GE351.out) | exact HB.out)⟩
     ·replace c60 := Bool.eq_false_iff.mpr c60
      subst c60
      have H1 : (some false) = some r := by rw [if_neg (show ¬ (false = true) by decide)] at H; exact H
      clear H
      have H := H1
      clear H1
      obtain rfl := Option.some.inj H
      try go_wp2
      have n0_ := Aq.mk (Kd.RqD HO_341001.out)
      have n1_ := Aq.mk (Kd.RqD HO_346001.out)
      have n2_ := Aq.mk (Kd.RqD HO_352001.out)
      have n3_ := Aq.mk (kQD BK329.out)
      have n4_ := Aq.mk (kQD BK340.out)
      have n5_ := Aq.mk (kQD BK345.out)
      have n6_ := Aq.mk (kQD BK351.out)
      have n7_ := Aq.mk (bQ1 HB.out)
      clear HO_341001
      clear HO_346001
      clear HO_352001
      clear BK329
      clear BK340
      clear BK345
      clear BK351
      clear HB
      have HO_341001 := n0_
      have HO_346001 := n1_
      have HO_352001 := n2_
      have BK329 := n3_
      have BK340 := n4_
      have BK345 := n5_
      have BK351 := n6_
      have HB := n7_
      clear n0_ n1_ n2_ n3_ n4_ n5_ n6_ n7_
      refine start_ (n := 5) (S := fun w' => w'.cell? ⟨gb345, 0, none⟩ = some (.int .i64 t341) ∧ w'.cell? ⟨gb345, 1, none⟩ = some (.slice Ao29 t342.length co29) ∧ w'.cell? ⟨gb329, 0, none⟩ = some (.int .i64 a0_0) ∧ w'.cell? ⟨gb329, 1, none⟩ = some (.slice A0_1 l0_1.length c0_1)) (ds := []) #[false, false, false, false, false] (by kernel_rfl) rfl rfl ⟨(kQC BK345.out 0).trans rfl, (kQC BK345.out 1).trans rfl, (kQC BK329.out 0).trans rfl, (kQC BK329.out 1).trans rfl⟩ (fun hHeld => ?_)
      generalize wc.drew = w177 at HO_341001 HO_346001 HO_352001 BK329 BK340 BK345 BK351 HB hHeld ⊢
      refine take_ (i := 0) (N := some 41) (v := ?_) (a' := ?_) #[true, false, false, false, false] rfl rfl (by kernel_rfl) (fun _ _ _ h => h) (Or.inl ⟨by rfl, ?_⟩) hHeld ?_ ?_
      rotate_left
      ·rintro w' ⟨s0, s1, s2, s3⟩
       go_simp
       with_reducible rfl
      rotate_left
      ·simp only [Act.put, qSa, qSb, qSc, i64_w, i32_w]
       rfl
      refine take_ (i := 1) (N := some 42) (v := ?_) (a' := ?_) #[true, true, false, false, false] rfl rfl (by kernel_rfl) (fun _ _ _ h => h) (Or.inl ⟨by rfl, ?_⟩) hHeld ?_ ?_
      rotate_left
      ·rintro w' ⟨s0, s1, s2, s3⟩
       go_simp
       with_reducible rfl
      rotate_left
      ·simp only [Act.put, qSa, qSb, qSc, i64_w, i32_w]
       rfl
      refine one_ (i := 2) (N := some 43) #[true, true, true, false, false] rfl rfl (by kernel_rfl) (by decide) (fun K hK => ?_)
      refine goes_ Try.func17 (by kernel_rfl) rfl #[.agg #[.int .i64 a0_0, .slice A0_1 l0_1.length c0_1]] (by rfl) rfl rfl (by (try simp only [List.map_toArray, List.map_cons, List.map_nil]); first | done | rfl | (simp only [List.length_drop, List.length_take]; rfl)) ?_
      with_reducible refine (laws_toMatrix.calls kj10 a0_0 _ _ l0_1 t353 t354 _ ?side1 ?side2 A58.out).mono ?_
      (case side1 => repeat (first | exact (Kd.C_below HR0_1.out HB.out) | (with_reducible refine Kd.CqA ?_ _) | (with_reducible refine Kd.CqN ?_ _) | (with_reducible refine Kd.CqD ?_)))
      (case side2 => exact HC0_1.out)
      rintro e w178 ⟨v355, rfl, ho0, hb⟩
      refine ⟨_, rfl, ?_⟩
      have n0_ := Aq.mk (Kd.R_elder' (by (with_reducible repeat (first | apply Kd.RqA | apply Kd.RqN | apply Kd.RqD)); exact HO_341001.out) (Kd.R_base ho0) hb)
      have n1_ := Aq.mk (Kd.R_elder' (by (with_reducible repeat (first | apply Kd.RqA | apply Kd.RqN | apply Kd.RqD)); exact HO_346001.out) (Kd.R_base ho0) hb)
      have n2_ := Aq.mk (Kd.R_elder' (by (with_reducible repeat (first | apply Kd.RqA | apply Kd.RqN | apply Kd.RqD)); exact HO_352001.out) (Kd.R_base ho0) hb)
      have n3_ := Aq.mk (Kd.R_lower (Kd.R_new' (Kd.R_new' (Kd.R_new' ho0 (Kd.R_lt (by (with_reducible repeat (first | apply Kd.RqA | apply Kd.RqN | apply Kd.RqD)); exact HO_341001.out))) (Kd.R_lt (by (with_reducible repeat (first | apply Kd.RqA | apply Kd.RqN | apply Kd.RqD)); exact HO_346001.out))) (Kd.R_lt (by (with_reducible repeat (first | apply Kd.RqA | apply Kd.RqN | apply Kd.RqD)); exact HO_352001.out))) (bQZ (by repeat (first | (with_reducible first | exact HB.out | apply bQA | apply bQN | apply bQ1 | refine bQS ?_ GE329.out | refine bQS ?_ GE340.out | refine bQS ?_ GE345.out | refine bQS ?_ GE351.out) | exact HB.out))))
      have n4_ := Aq.mk (kQB (g := gb329) (o := .cells #[.int .i64 a0_0, .slice A0_1 l0_1.length c0_1] 24 (0, 0)) (by (with_reducible repeat (first | refine kQN ?_ _ | refine kQD ?_ | refine kQA ?_ _)); exact BK329.out) hb)
      have n5_ := Aq.mk (kQB (g := gb340) (o := .cells #[.int .i64 t335, .slice Ao22 t336.length co22] 26 (0, 0)) (by (with_reducible repeat (first | refine kQN ?_ _ | refine kQD ?_ | refine kQA ?_ _)); exact BK340.out) hb)
      have n6_ := Aq.mk (kQB (g := gb345) (o := .cells #[.int .i64 t341, .slice Ao29 t342.length co29] 26 (0, 0)) (by (with_reducible repeat (first | refine kQN ?_ _ | refine kQD ?_ | refine kQA ?_ _)); exact BK345.out) hb)
      have n7_ := Aq.mk (kQB (g := gb351) (o := .cells #[.int .i64 t346, .slice Ao38 t347.length co38] 26 (0, 0)) (by (with_reducible repeat (first | refine kQN ?_ _ | refine kQD ?_ | refine kQA ?_ _)); exact BK351.out) hb)
      have n8_ := Aq.mk (bQT (by repeat (first | (with_reducible first | exact HB.out | apply bQA | apply bQN | apply bQ1 | refine bQS ?_ GE329.out | refine bQS ?_ GE340.out | refine bQS ?_ GE345.out | refine bQS ?_ GE351.out) | exact HB.out)) hb)
      clear HO_341001
      clear HO_346001
      clear HO_352001
      clear BK329
      clear BK340
      clear BK345
      clear BK351
      clear HB
      have HO_341001 := n0_
      have HO_346001 := n1_
      have HO_352001 := n2_
      have HO356 := n3_
      have BK329 := n4_
      have BK340 := n5_
      have BK345 := n6_
      have BK351 := n7_
      have HB := n8_
      clear n0_ n1_ n2_ n3_ n4_ n5_ n6_ n7_ n8_
      (try clear hb)
      (try clear hb2)
      (try clear hk)
      (try clear hi)
      (try clear ho0)
      obtain ⟨Ao179, co179, eo179⟩ := Kd.R_slice HO356.out
      (first | subst eo179 | (injection eo179 with f1_ f2_ f3_; have f4_ := f1_.symm; have f5_ := f3_.symm; clear f1_ f2_ f3_; subst f4_; subst f5_))
      refine hK.out _ _ ⟨(kQC BK345.out 0).trans rfl, (kQC BK345.out 1).trans rfl, (kQC BK329.out 0).trans rfl, (kQC BK329.out 1).trans rfl⟩ (fun hHeld => ?_)
      clear hK K
      refine norm_ (a' := ?_) ?_ ?_
      rotate_left
      ·show Act.put _ (some 43) _ = _
       simp only [Act.put, qSa, qSb, qSc, i64_w, i32_w]
       rfl
      refine one_ (i := 3) (N := some 44) #[true, true, true, true, false] rfl rfl (by kernel_rfl) (by decide) (fun K hK => ?_)
      refine goes_ Try.func19 (by kernel_rfl) rfl #[.agg #[.int .i64 t341, .slice Ao29 t342.length co29], .agg #[.int .i64 t353, .slice Ao179 t354.length co179]] (by rfl) rfl rfl (by (try simp only [List.map_toArray, List.map_cons, List.map_nil]); first | done | rfl | (simp only [List.length_drop, List.length_take]; rfl)) ?_
      with_reducible refine (laws_eqMatrix.calls kj10 t341 _ _ t342 t353 _ _ t354 false _ ?side1 ?side2 ?side3 ?side4 A59.out).mono ?_
      (case side1 => repeat (first | exact (Kd.R_reads' HO_346001.out).2.2 | (with_reducible refine Kd.CqA ?_ _) | (with_reducible refine Kd.CqN ?_ _) | (with_reducible refine Kd.CqD ?_)))
      (case side2 => exact (Kd.R_reads' HO_346001.out).2.1)
      (case side3 => repeat (first | exact (Kd.R_reads' HO356.out).2.2 | (with_reducible refine Kd.CqA ?_ _) | (with_reducible refine Kd.CqN ?_ _) | (with_reducible refine Kd.CqD ?_)))
      (case side4 => exact (Kd.R_reads' HO356.out).2.1)
      rintro e w180 ⟨rfl, hb⟩
      refine ⟨_, rfl, ?_⟩
      have n0_ := Aq.mk (Kd.R_below (by (with_reducible repeat (first | apply Kd.RqA | apply Kd.RqN | apply Kd.RqD)); exact HO_341001.out) hb)
      have n1_ := Aq.mk (Kd.R_below (by (with_reducible repeat (first | apply Kd.RqA | apply Kd.RqN | apply Kd.RqD)); exact HO_346001.out) hb)
      have n2_ := Aq.mk (Kd.R_below (by (with_reducible repeat (first | apply Kd.RqA | apply Kd.RqN | apply Kd.RqD)); exact HO_352001.out) hb)
      have n3_ := Aq.mk (Kd.R_below (by (with_reducible repeat (first | apply Kd.RqA | apply Kd.RqN | apply Kd.RqD)); exact HO356.out) hb)
      have n4_ := Aq.mk (kQB (g := gb329) (o := .cells #[.int .i64 a0_0, .slice A0_1 l0_1.length c0_1] 24 (0, 0)) (by (with_reducible repeat (first | refine kQN ?_ _ | refine kQD ?_ | refine kQA ?_ _)); exact BK329.out) hb)
      have n5_ := Aq.mk (kQB (g := gb340) (o := .cells #[.int .i64 t335, .slice Ao22 t336.length co22] 26 (0, 0)) (by (with_reducible repeat (first | refine kQN ?_ _ | refine kQD ?_ | refine kQA ?_ _)); exact BK340.out) hb)
      have n6_ := Aq.mk (kQB (g := gb345) (o := .cells #[.int .i64 t341, .slice Ao29 t342.length co29] 26 (0, 0)) (by (with_reducible repeat (first | refine kQN ?_ _ | refine kQD ?_ | refine kQA ?_ _)); exact BK345.out) hb)
      have n7_ := Aq.mk (kQB (g := gb351) (o := .cells #[.int .i64 t346, .slice Ao38 t347.length co38] 26 (0, 0)) (by (with_reducible repeat (first | refine kQN ?_ _ | refine kQD ?_ | refine kQA ?_ _)); exact BK351.out) hb)
      have n8_ := Aq.mk (bQT (by repeat (first | (with_reducible first | exact HB.out | apply bQA | apply bQN | apply bQ1 | refine bQS ?_ GE329.out | refine bQS ?_ GE340.out | refine bQS ?_ GE345.out | refine bQS ?_ GE351.out) | exact HB.out)) hb)
      clear HO_341001
      clear HO_346001
      clear HO_352001
      clear HO356
      clear BK329
      clear BK340
      clear BK345
      clear BK351
      clear HB
      have HO_341001 := n0_
      have HO_346001 := n1_
      have HO_352001 := n2_
      have HO356 := n3_
      have BK329 := n4_
      have BK340 := n5_
      have BK345 := n6_
      have BK351 := n7_
      have HB := n8_
      clear n0_ n1_ n2_ n3_ n4_ n5_ n6_ n7_ n8_
      (try clear hb)
      (try clear hb2)
      (try clear hk)
      (try clear hi)
      refine hK.out _ _ ⟨(kQC BK345.out 0).trans rfl, (kQC BK345.out 1).trans rfl, (kQC BK329.out 0).trans rfl, (kQC BK329.out 1).trans rfl⟩ (fun hHeld => ?_)
      clear hK K
      refine norm_ (a' := ?_) ?_ ?_
      rotate_left
      ·show Act.put _ (some 44) _ = _
       simp only [Act.put, qSa, qSb, qSc, i64_w, i32_w]
       rfl
      refine pure_ (i := 4) (N := some 45) (v := ?_) (a' := ?_) #[true, true, true, true, true] rfl rfl (by kernel_rfl) (fun _ _ _ h => h) (Or.inl ⟨by rfl, ?_⟩) ?_ ?_
      rotate_left
      ·intro w'
       go_simp
       with_reducible rfl
      rotate_left
      ·simp only [Act.put, qSa, qSb, qSc, i64_w, i32_w]
       rfl
      refine done_ (by kernel_rfl) ?_
      try go_wp2
      go_ret
      exact ⟨by first | rfl | (simp [errW_none, errW_some] <;> rfl) | (simp [*, errW_none, errW_some] <;> rfl), by repeat (first | (with_reducible first | exact HB.out | apply bQA | apply bQN | apply bQ1 | refine bQS ?_ GE329.out | refine bQS ?_ GE340.out | refine bQS ?_ GE345.out | refine bQS ?_ GE351.out) | exact HB.out)⟩
end Go.Proofs.Ytbaicdgkpnbipaa.P
