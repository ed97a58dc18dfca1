/- Functions of the program and what they tell, as the printing program wrote it. -/
import Derived.Test.YtngiionckbmkmaaPx0
import Derived.Test.YtngiionckbmkmaaPx17
import Derived.Test.YtngiionckbmkmaaPx19
import Derived.Test.YtngiionckbmkmaaPx21
import Derived.Test.YtngiionckbmkmaaPx37
import Derived.Test.YtngiionckbmkmaaPx56
import Derived.Test.YtngiionckbmkmaaPx57
namespace Go.Proofs.Ytngiionckbmkmaa.P
open Go.Shelf Go.RowKit Go.Proofs.YtngiionckbmkmaaW.PrintWords Go.Proofs.YtngiionckbmkmaaW.PrintLast Go.Proofs.YtngiionckbmkmaaW.PrintMore
attribute [local go_sem] max2_int min2_int max_two min_two max_three min_three max_four min_four
set_option linter.unusedVariables false
set_option linter.unusedSimpArgs false
mutual
def laws_FnExactSquareGabidulin.j0 : Nat → Int → Int → Int → Bool → Int → Int → List Int → Int → Int → Int → List Int → Int → Int → Int → List Int → Int → Int → Int → List Int → Int → Option (Bool)
  | 0, _, _, _, _, _, _, _, _, _, _, _, _, _, _, _, _, _, _, _, _ => none
  | k + 1, x1, x7, x10, x44, x1134000, x1134001, x1134002, x1134003, x1149000, x1149001, x1149002, x1149003, x1156000, x1156001, x1156002, x1156003, x1164000, x1164001, x1164002, x1164003 => if x44 = true then (some false) else ((laws_toGabidulin.f k x1134000 x1134001 x1134002 x1134003).bind fun bt1165 => ((laws_eqGabidulin.f k x1156000 x1156001 x1156002 x1156003 bt1165.1 bt1165.2.1 bt1165.2.2.1 bt1165.2.2.2).bind fun t1171 => (if t1171 = true then ((laws_markGabidulin.f k x1156000 x1156001 x1156002 x1156003 1).bind fun bt1172 => (if bt1172.1 < 0 then (laws_FnExactSquareGabidulin.j1 k x1 x7 true x1134000 x1134001 x1134002 x1134003 x1149000 x1149001 x1149002 x1149003 x1164000 x1164001 x1164002 x1164003) else ((laws_eqGabidulin.f k x1164000 x1164001 x1164002 x1164003 x1149000 x1149001 x1149002 x1149003).bind fun t1174 => (if t1174 = true then (laws_FnExactSquareGabidulin.j1 k x1 x7 (x10 != x7) x1134000 x1134001 x1134002 x1134003 x1149000 x1149001 x1149002 x1149003 x1164000 x1164001 x1164002 x1164003) else (laws_FnExactSquareGabidulin.j1 k x1 x7 true x1134000 x1134001 x1134002 x1134003 x1149000 x1149001 x1149002 x1149003 x1164000 x1164001 x1164002 x1164003))))) else (some false))))
def laws_FnExactSquareGabidulin.j1 : Nat → Int → Int → Bool → Int → Int → List Int → Int → Int → Int → List Int → Int → Int → Int → List Int → Int → Option (Bool)
  | 0, _, _, _, _, _, _, _, _, _, _, _, _, _, _, _ => none
  | k + 1, x1, x7, x65, x1134000, x1134001, x1134002, x1134003, x1149000, x1149001, x1149002, x1149003, x1164000, x1164001, x1164002, x1164003 => if x65 = true then (some false) else ((laws_markGabidulin.f k x1164000 x1164001 x1164002 x1164003 1).bind fun bt1175 => ((laws_heldGabidulin.f k x1164000 x1164001 bt1175.2 x1164003 1).bind fun t1177 => (if t1177 < 0 then (some false) else (if t1177 = bt1175.1 then ((laws_toGabidulin.f k x1134000 x1134001 x1134002 x1134003).bind fun bt1178 => ((impl_SquareGabidulin.f k bt1178.1 bt1178.2.1 bt1178.2.2.1 bt1178.2.2.2 x1).bind fun bt1184 => ((laws_eqGabidulin.f k bt1184.1 bt1184.2.1 bt1184.2.2.1 bt1184.2.2.2.1 x1149000 x1149001 x1149002 x1149003).bind fun t1192 => (if t1192 = true then (laws_FnExactSquareGabidulin.j2 k bt1175.1 (bt1184.2.2.2.2 != x7) x1164000 x1164001 bt1175.2 x1164003) else (laws_FnExactSquareGabidulin.j2 k bt1175.1 true x1164000 x1164001 bt1175.2 x1164003))))) else (some false)))))
def laws_FnExactSquareGabidulin.j2 : Nat → Int → Bool → Int → Int → List Int → Int → Option (Bool)
  | 0, _, _, _, _, _, _ => none
  | k + 1, x12, x92, x1164000, x1164001, x1164002, x1164003 => if x92 = true then (some false) else ((laws_heldGabidulin.f k x1164000 x1164001 x1164002 x1164003 1).bind fun t1193 => (if t1193 < 0 then (some false) else (if t1193 = x12 then (some true) else (some false))))
end
def laws_FnExactSquareGabidulin.f (k : Nat) (a0_0 : Int) (a0_1 : Int) (l0_2 : List Int) (a0_3 : Int) (a1 : Int) : Option (Bool) := (laws_szGabidulin.f a0_0 a0_1 l0_2 a0_3 1048576).bind fun t1134 => (if t1134 < 0 then (some true) else ((laws_toGabidulin.f k a0_0 a0_1 l0_2 a0_3).bind fun bt1135 => ((spec_SquareGabidulin.f k bt1135.1 bt1135.2.1 bt1135.2.2.1 bt1135.2.2.2 a1).bind fun bt1141 => ((laws_toGabidulin.f k a0_0 a0_1 l0_2 a0_3).bind fun bt1149 => ((impl_SquareGabidulin.f k bt1149.1 bt1149.2.1 bt1149.2.2.1 bt1149.2.2.2 a1).bind fun bt1156 => ((laws_eqGabidulin.f k bt1156.1 bt1156.2.1 bt1156.2.2.1 bt1156.2.2.2.1 bt1141.1 bt1141.2.1 bt1141.2.2.1 bt1141.2.2.2.1).bind fun t1164 => (if t1164 = true then (laws_FnExactSquareGabidulin.j0 k a1 bt1141.2.2.2.2 bt1156.2.2.2.2 (bt1156.2.2.2.2 != bt1141.2.2.2.2) a0_0 a0_1 l0_2 a0_3 bt1141.1 bt1141.2.1 bt1141.2.2.1 bt1141.2.2.2.1 bt1149.1 bt1149.2.1 bt1149.2.2.1 bt1149.2.2.2 bt1156.1 bt1156.2.1 bt1156.2.2.1 bt1156.2.2.2.1) else (laws_FnExactSquareGabidulin.j0 k a1 bt1141.2.2.2.2 bt1156.2.2.2.2 true a0_0 a0_1 l0_2 a0_3 bt1141.1 bt1141.2.1 bt1141.2.2.1 bt1141.2.2.2.1 bt1149.1 bt1149.2.1 bt1149.2.2.1 bt1149.2.2.2 bt1156.1 bt1156.2.1 bt1156.2.2.1 bt1156.2.2.2.1))))))))
theorem laws_FnExactSquareGabidulin.mono_l : ∀ k, (∀ y0 y1 y2 y3 y4 y5 y6 y7 y8 y9 y10 y11 y12 y13 y14 y15 y16 y17 y18 y19, LeO (laws_FnExactSquareGabidulin.j0 k y0 y1 y2 y3 y4 y5 y6 y7 y8 y9 y10 y11 y12 y13 y14 y15 y16 y17 y18 y19) (laws_FnExactSquareGabidulin.j0 (k + 1) y0 y1 y2 y3 y4 y5 y6 y7 y8 y9 y10 y11 y12 y13 y14 y15 y16 y17 y18 y19)) ∧ (∀ y0 y1 y2 y3 y4 y5 y6 y7 y8 y9 y10 y11 y12 y13 y14, LeO (laws_FnExactSquareGabidulin.j1 k y0 y1 y2 y3 y4 y5 y6 y7 y8 y9 y10 y11 y12 y13 y14) (laws_FnExactSquareGabidulin.j1 (k + 1) y0 y1 y2 y3 y4 y5 y6 y7 y8 y9 y10 y11 y12 y13 y14)) ∧ (∀ y0 y1 y2 y3 y4 y5, LeO (laws_FnExactSquareGabidulin.j2 k y0 y1 y2 y3 y4 y5) (laws_FnExactSquareGabidulin.j2 (k + 1) y0 y1 y2 y3 y4 y5))
 | 0 => ⟨fun _ _ _ _ _ _ _ _ _ _ _ _ _ _ _ _ _ _ _ _ r h => by simp [laws_FnExactSquareGabidulin.j0] at h, fun _ _ _ _ _ _ _ _ _ _ _ _ _ _ _ r h => by simp [laws_FnExactSquareGabidulin.j1] at h, fun _ _ _ _ _ _ r h => by simp [laws_FnExactSquareGabidulin.j2] at h⟩
 | k + 1 => by
  obtain ⟨ih0, ih1, ih2⟩ := laws_FnExactSquareGabidulin.mono_l k
  refine ⟨?_, ?_, ?_⟩
  ·intro y0 y1 y2 y3 y4 y5 y6 y7 y8 y9 y10 y11 y12 y13 y14 y15 y16 y17 y18 y19
   unfold laws_FnExactSquareGabidulin.j0
   repeat' first
   | (with_reducible first | exact ih0 _ _ _ _ _ _ _ _ _ _ _ _ _ _ _ _ _ _ _ _ | exact ih1 _ _ _ _ _ _ _ _ _ _ _ _ _ _ _ | exact ih2 _ _ _ _ _ _ | exact impl_SquareGabidulin.mono _ _ _ _ _ _ | exact laws_eqGabidulin.mono _ _ _ _ _ _ _ _ _ | exact laws_heldGabidulin.mono _ _ _ _ _ _ | exact laws_markGabidulin.mono _ _ _ _ _ _ | exact laws_toGabidulin.mono _ _ _ _ _ | exact spec_SquareGabidulin.mono _ _ _ _ _ _ | exact LeO.refl _ | exact LeO.none _ | refine LeO.ite ?_ ?_ | refine LeO.bind ?_ (fun _ => ?_))
   | exact LeO.none _
   | refine LeO.ite ?_ ?_
   | refine LeO.bind ?_ (fun _ => ?_)
  ·intro y0 y1 y2 y3 y4 y5 y6 y7 y8 y9 y10 y11 y12 y13 y14
   unfold laws_FnExactSquareGabidulin.j1
   repeat' first
   | (with_reducible first | exact ih0 _ _ _ _ _ _ _ _ _ _ _ _ _ _ _ _ _ _ _ _ | exact ih1 _ _ _ _ _ _ _ _ _ _ _ _ _ _ _ | exact ih2 _ _ _ _ _ _ | exact impl_SquareGabidulin.mono _ _ _ _ _ _ | exact laws_eqGabidulin.mono _ _ _ _ _ _ _ _ _ | exact laws_heldGabidulin.mono _ _ _ _ _ _ | exact laws_markGabidulin.mono _ _ _ _ _ _ | exact laws_toGabidulin.mono _ _ _ _ _ | exact spec_SquareGabidulin.mono _ _ _ _ _ _ | exact LeO.refl _ | exact LeO.none _ | refine LeO.ite ?_ ?_ | refine LeO.bind ?_ (fun _ => ?_))
   | exact LeO.none _
   | refine LeO.ite ?_ ?_
   | refine LeO.bind ?_ (fun _ => ?_)
  ·intro y0 y1 y2 y3 y4 y5
   unfold laws_FnExactSquareGabidulin.j2
   repeat' first
   | (with_reducible first | exact ih0 _ _ _ _ _ _ _ _ _ _ _ _ _ _ _ _ _ _ _ _ | exact ih1 _ _ _ _ _ _ _ _ _ _ _ _ _ _ _ | exact ih2 _ _ _ _ _ _ | exact impl_SquareGabidulin.mono _ _ _ _ _ _ | exact laws_eqGabidulin.mono _ _ _ _ _ _ _ _ _ | exact laws_heldGabidulin.mono _ _ _ _ _ _ | exact laws_markGabidulin.mono _ _ _ _ _ _ | exact laws_toGabidulin.mono _ _ _ _ _ | exact spec_SquareGabidulin.mono _ _ _ _ _ _ | exact LeO.refl _ | exact LeO.none _ | refine LeO.ite ?_ ?_ | refine LeO.bind ?_ (fun _ => ?_))
   | exact LeO.none _
   | refine LeO.ite ?_ ?_
   | refine LeO.bind ?_ (fun _ => ?_)
theorem laws_FnExactSquareGabidulin.mono : ∀ a0 a1 a2 a3 a4 k, LeO (laws_FnExactSquareGabidulin.f k a0 a1 a2 a3 a4) (laws_FnExactSquareGabidulin.f (k + 1) a0 a1 a2 a3 a4) := by
 intro a0 a1 a2 a3 a4 k
 obtain ⟨ih0, ih1, ih2⟩ := laws_FnExactSquareGabidulin.mono_l k
 unfold laws_FnExactSquareGabidulin.f
 repeat' first
  | (with_reducible first | exact ih0 _ _ _ _ _ _ _ _ _ _ _ _ _ _ _ _ _ _ _ _ | exact ih1 _ _ _ _ _ _ _ _ _ _ _ _ _ _ _ | exact ih2 _ _ _ _ _ _ | exact impl_SquareGabidulin.mono _ _ _ _ _ _ | exact laws_eqGabidulin.mono _ _ _ _ _ _ _ _ _ | exact laws_heldGabidulin.mono _ _ _ _ _ _ | exact laws_markGabidulin.mono _ _ _ _ _ _ | exact laws_toGabidulin.mono _ _ _ _ _ | exact spec_SquareGabidulin.mono _ _ _ _ _ _ | exact LeO.refl _ | exact LeO.none _ | refine LeO.ite ?_ ?_ | refine LeO.bind ?_ (fun _ => ?_))
  | exact LeO.none _
  | refine LeO.ite ?_ ?_
  | refine LeO.bind ?_ (fun _ => ?_)
set_option maxHeartbeats 8000000 in
set_option maxRecDepth 100000 in
theorem laws_FnExactSquareGabidulin.calls (k : Nat) (a0_0 : Int) (a0_1 : Int) (A0_2 : Option Addr) (c0_2 : Nat) (l0_2 : List Int) (a0_3 : Int) (a1 : Int) (r : Bool) (w : World) (hr0_2 : Kd.C (Kd.int .i64) w A0_2 l0_2.length l0_2) (hc0_2 : l0_2.length ≤ c0_2) (h : laws_FnExactSquareGabidulin.f k a0_0 a0_1 l0_2 a0_3 a1 = some r) :
 Calls Try.prog 15 #[.agg #[.int .i64 a0_0, .int .i64 a0_1, .slice A0_2 l0_2.length c0_2, .int .i64 a0_3], .int .i64 a1] w fun e w' => e = .returned (.bool r) ∧ Below w.heap.size w w' := by
 have hu45 := Try.underlying45
 have hu49 := Try.underlying49
 have HR0_2 := Aq.mk hr0_2
 have HC0_2 := Aq.mk hc0_2
 clear hr0_2 hc0_2
 have HB := Aq.mk (Below.refl w.heap.size w)
 have H : ((laws_szGabidulin.f a0_0 a0_1 l0_2 a0_3 1048576).bind fun t1134 => (if t1134 < 0 then (some true) else ((laws_toGabidulin.f k a0_0 a0_1 l0_2 a0_3).bind fun bt1135 => ((spec_SquareGabidulin.f k bt1135.1 bt1135.2.1 bt1135.2.2.1 bt1135.2.2.2 a1).bind fun bt1141 => ((laws_toGabidulin.f k a0_0 a0_1 l0_2 a0_3).bind fun bt1149 => ((impl_SquareGabidulin.f k bt1149.1 bt1149.2.1 bt1149.2.2.1 bt1149.2.2.2 a1).bind fun bt1156 => ((laws_eqGabidulin.f k bt1156.1 bt1156.2.1 bt1156.2.2.1 bt1156.2.2.2.1 bt1141.1 bt1141.2.1 bt1141.2.2.1 bt1141.2.2.2.1).bind fun t1164 => (if t1164 = true then (laws_FnExactSquareGabidulin.j0 k a1 bt1141.2.2.2.2 bt1156.2.2.2.2 (bt1156.2.2.2.2 != bt1141.2.2.2.2) a0_0 a0_1 l0_2 a0_3 bt1141.1 bt1141.2.1 bt1141.2.2.1 bt1141.2.2.2.1 bt1149.1 bt1149.2.1 bt1149.2.2.1 bt1149.2.2.2 bt1156.1 bt1156.2.1 bt1156.2.2.1 bt1156.2.2.2.1) else (laws_FnExactSquareGabidulin.j0 k a1 bt1141.2.2.2.2 bt1156.2.2.2.2 true a0_0 a0_1 l0_2 a0_3 bt1141.1 bt1141.2.1 bt1141.2.2.1 bt1141.2.2.2.1 bt1149.1 bt1149.2.1 bt1149.2.2.1 bt1149.2.2.2 bt1156.1 bt1156.2.1 bt1156.2.2.1 bt1156.2.2.2.1))))))))) = some r := h
 clear h
 replace H := Option.bind_eq_some_iff.mp H
 obtain ⟨t1134, A30, H⟩ := H
 replace H : (if t1134 < 0 then (some true) else ((laws_toGabidulin.f k a0_0 a0_1 l0_2 a0_3).bind fun bt1135 => ((spec_SquareGabidulin.f k bt1135.1 bt1135.2.1 bt1135.2.2.1 bt1135.2.2.2 a1).bind fun bt1141 => ((laws_toGabidulin.f k a0_0 a0_1 l0_2 a0_3).bind fun bt1149 => ((impl_SquareGabidulin.f k bt1149.1 bt1149.2.1 bt1149.2.2.1 bt1149.2.2.2 a1).bind fun bt1156 => ((laws_eqGabidulin.f k bt1156.1 bt1156.2.1 bt1156.2.2.1 bt1156.2.2.2.1 bt1141.1 bt1141.2.1 bt1141.2.2.1 bt1141.2.2.2.1).bind fun t1164 => (if t1164 = true then (laws_FnExactSquareGabidulin.j0 k a1 bt1141.2.2.2.2 bt1156.2.2.2.2 (bt1156.2.2.2.2 != bt1141.2.2.2.2) a0_0 a0_1 l0_2 a0_3 bt1141.1 bt1141.2.1 bt1141.2.2.1 bt1141.2.2.2.1 bt1149.1 bt1149.2.1 bt1149.2.2.1 bt1149.2.2.2 bt1156.1 bt1156.2.1 bt1156.2.2.1 bt1156.2.2.2.1) else (laws_FnExactSquareGabidulin.j0 k a1 bt1141.2.2.2.2 bt1156.2.2.2.2 true a0_0 a0_1 l0_2 a0_3 bt1141.1 bt1141.2.1 bt1141.2.2.1 bt1141.2.2.2.1 bt1149.1 bt1149.2.1 bt1149.2.2.1 bt1149.2.2.2 bt1156.1 bt1156.2.1 bt1156.2.2.1 bt1156.2.2.2.1)))))))) = some r := H
 have A3 := Aq.mk A30
 clear A30
 by_cases c4 : t1134 < 0
 ·rw [if_pos c4] at H
  have c4b0 : decide (t1134 < 0) = true := decide_eq_true c4
  clear c4
  obtain rfl := Option.some.inj H
  go_enter Try.func15, Try.ntmps15
  go_wp2_with (first | ((with_reducible refine gQd (N := 2) rfl ?_); refine xQe ?hg (N := 2) ?hd (cs := #[.int .i64 a0_0, .int .i64 a0_1, .slice A0_2 l0_2.length c0_2, .int .i64 a0_3]) (t := 45) ?hr ?_; (case hd => rfl); (case hg => rfl); (case hr => first | (go_simp; done) | (go_simp; rfl)); intro gb1133 hg w5 hbox hb; have n0_ := Aq.mk (bQT (by repeat (first | (with_reducible first | exact HB.out | apply bQA | apply bQN | apply bQ1) | exact HB.out)) hb); have n1_ := Aq.mk (hbox); have n2_ := Aq.mk ((by rw [hg]; exact (bQZ (by repeat (first | (with_reducible first | exact HB.out | apply bQA | apply bQN | apply bQ1) | exact HB.out))) : w.heap.size ≤ gb1133)); have n3_ := Aq.mk ((by rw [hg]; exact (bQZ (by repeat (first | (with_reducible first | exact HB.out | apply bQA | apply bQN | apply bQ1) | exact HB.out))) : w.heap.size ≤ gb1133)); clear HB; have HB := n0_; have BK1133 := n1_; have GW1133 := n2_; have GE1133 := n3_; clear n0_ n1_ n2_ n3_; clear hb hbox hg; have hcz6_0 : w5.cell? ⟨gb1133, 0, none⟩ = some (.int .i64 a0_0) := (kQC BK1133.out 0).trans rfl; have hcz6_1 : w5.cell? ⟨gb1133, 1, none⟩ = some (.int .i64 a0_1) := (kQC BK1133.out 1).trans rfl; have hcz6_2 : w5.cell? ⟨gb1133, 2, none⟩ = some (.slice A0_2 l0_2.length c0_2) := (kQC BK1133.out 2).trans rfl; have hcz6_3 : w5.cell? ⟨gb1133, 3, none⟩ = some (.int .i64 a0_3) := (kQC BK1133.out 3).trans rfl; have hfz6_0 := kQF BK1133.out 0; have hfz6_1 := kQF BK1133.out 1; have hfz6_2 := kQF BK1133.out 2; have hfz6_3 := kQF BK1133.out 3) | ((with_reducible refine gQc (f := 35) rfl ?_); refine goesL_ (some 18) rfl rfl Try.func35 (by kernel_rfl) rfl #[.agg #[.int .i64 a0_0, .int .i64 a0_1, .slice A0_2 l0_2.length c0_2, .int .i64 a0_3], .int .i64 1048576] rfl (by (try simp only [List.map_toArray, List.map_cons, List.map_nil]); first | done | rfl | (simp only [List.length_drop, List.length_take]; rfl)) ?_; (with_reducible refine (laws_szGabidulin.calls a0_0 a0_1 _ _ l0_2 a0_3 1048576 t1134 _ ?side1 ?side2 A3.out).mono ?_); (case side1 => repeat (first | exact (Kd.C_below HR0_2.out HB.out) | (with_reducible refine Kd.CqA ?_ _) | (with_reducible refine Kd.CqN ?_ _) | (with_reducible refine Kd.CqD ?_))); (case side2 => exact HC0_2.out); rintro e w7 ⟨rfl, hb⟩; refine ⟨_, rfl, ?_⟩; have n0_ := Aq.mk (kQB (g := gb1133) (o := .cells #[.int .i64 a0_0, .int .i64 a0_1, .slice A0_2 l0_2.length c0_2, .int .i64 a0_3] 45 (0, 0)) (by (with_reducible repeat (first | refine kQN ?_ _ | refine kQD ?_ | refine kQA ?_ _)); exact BK1133.out) hb); have n1_ := Aq.mk (bQT (by repeat (first | (with_reducible first | exact HB.out | apply bQA | apply bQN | apply bQ1 | refine bQS ?_ GE1133.out) | exact HB.out)) hb); clear BK1133; clear HB; have BK1133 := n0_; have HB := n1_; clear n0_ n1_; (try clear hb); (try clear hb2); (try clear hk); (try clear hi)))
  go_ret
  exact ⟨by first | rfl | (simp [errW_none, errW_some] <;> rfl) | (simp [*, errW_none, errW_some] <;> rfl), by repeat (first | (with_reducible first | exact HB.out | apply bQA | apply bQN | apply bQ1 | refine bQS ?_ GE1133.out) | exact HB.out)⟩
 ·rw [if_neg c4] at H
  have c4b0 : decide (t1134 < 0) = false := decide_eq_false c4
  clear c4
  replace H := Option.bind_eq_some_iff.mp H
  obtain ⟨⟨t1135, t1136, t1137, t1140⟩, A80, H⟩ := H
  replace H : ((spec_SquareGabidulin.f k t1135 t1136 t1137 t1140 a1).bind fun bt1141 => ((laws_toGabidulin.f k a0_0 a0_1 l0_2 a0_3).bind fun bt1149 => ((impl_SquareGabidulin.f k bt1149.1 bt1149.2.1 bt1149.2.2.1 bt1149.2.2.2 a1).bind fun bt1156 => ((laws_eqGabidulin.f k bt1156.1 bt1156.2.1 bt1156.2.2.1 bt1156.2.2.2.1 bt1141.1 bt1141.2.1 bt1141.2.2.1 bt1141.2.2.2.1).bind fun t1164 => (if t1164 = true then (laws_FnExactSquareGabidulin.j0 k a1 bt1141.2.2.2.2 bt1156.2.2.2.2 (bt1156.2.2.2.2 != bt1141.2.2.2.2) a0_0 a0_1 l0_2 a0_3 bt1141.1 bt1141.2.1 bt1141.2.2.1 bt1141.2.2.2.1 bt1149.1 bt1149.2.1 bt1149.2.2.1 bt1149.2.2.2 bt1156.1 bt1156.2.1 bt1156.2.2.1 bt1156.2.2.2.1) else (laws_FnExactSquareGabidulin.j0 k a1 bt1141.2.2.2.2 bt1156.2.2.2.2 true a0_0 a0_1 l0_2 a0_3 bt1141.1 bt1141.2.1 bt1141.2.2.1 bt1141.2.2.2.1 bt1149.1 bt1149.2.1 bt1149.2.2.1 bt1149.2.2.2 bt1156.1 bt1156.2.1 bt1156.2.2.1 bt1156.2.2.2.1)))))) = some r := H
  have A8 := Aq.mk A80
  clear A80
  replace H := Option.bind_eq_some_iff.mp H
  obtain ⟨⟨t1141, t1142, t1143, t1146, t1147⟩, A90, H⟩ := H
  replace H : ((laws_toGabidulin.f k a0_0 a0_1 l0_2 a0_3).bind fun bt1149 => ((impl_SquareGabidulin.f k bt1149.1 bt1149.2.1 bt1149.2.2.1 bt1149.2.2.2 a1).bind fun bt1156 => ((laws_eqGabidulin.f k bt1156.1 bt1156.2.1 bt1156.2.2.1 bt1156.2.2.2.1 t1141 t1142 t1143 t1146).bind fun t1164 => (if t1164 = true then (laws_FnExactSquareGabidulin.j0 k a1 t1147 bt1156.2.2.2.2 (bt1156.2.2.2.2 != t1147) a0_0 a0_1 l0_2 a0_3 t1141 t1142 t1143 t1146 bt1149.1 bt1149.2.1 bt1149.2.2.1 bt1149.2.2.2 bt1156.1 bt1156.2.1 bt1156.2.2.1 bt1156.2.2.2.1) else (laws_FnExactSquareGabidulin.j0 k a1 t1147 bt1156.2.2.2.2 true a0_0 a0_1 l0_2 a0_3 t1141 t1142 t1143 t1146 bt1149.1 bt1149.2.1 bt1149.2.2.1 bt1149.2.2.2 bt1156.1 bt1156.2.1 bt1156.2.2.1 bt1156.2.2.2.1))))) = some r := H
  have A9 := Aq.mk A90
  clear A90
  replace H := Option.bind_eq_some_iff.mp H
  obtain ⟨⟨t1149, t1150, t1151, t1154⟩, A100, H⟩ := H
  replace H : ((impl_SquareGabidulin.f k t1149 t1150 t1151 t1154 a1).bind fun bt1156 => ((laws_eqGabidulin.f k bt1156.1 bt1156.2.1 bt1156.2.2.1 bt1156.2.2.2.1 t1141 t1142 t1143 t1146).bind fun t1164 => (if t1164 = true then (laws_FnExactSquareGabidulin.j0 k a1 t1147 bt1156.2.2.2.2 (bt1156.2.2.2.2 != t1147) a0_0 a0_1 l0_2 a0_3 t1141 t1142 t1143 t1146 t1149 t1150 t1151 t1154 bt1156.1 bt1156.2.1 bt1156.2.2.1 bt1156.2.2.2.1) else (laws_FnExactSquareGabidulin.j0 k a1 t1147 bt1156.2.2.2.2 true a0_0 a0_1 l0_2 a0_3 t1141 t1142 t1143 t1146 t1149 t1150 t1151 t1154 bt1156.1 bt1156.2.1 bt1156.2.2.1 bt1156.2.2.2.1)))) = some r := H
  have A10 := Aq.mk A100
  clear A100
  replace H := Option.bind_eq_some_iff.mp H
  obtain ⟨⟨t1156, t1157, t1158, t1161, t1162⟩, A110, H⟩ := H
  replace H : ((laws_eqGabidulin.f k t1156 t1157 t1158 t1161 t1141 t1142 t1143 t1146).bind fun t1164 => (if t1164 = true then (laws_FnExactSquareGabidulin.j0 k a1 t1147 t1162 (t1162 != t1147) a0_0 a0_1 l0_2 a0_3 t1141 t1142 t1143 t1146 t1149 t1150 t1151 t1154 t1156 t1157 t1158 t1161) else (laws_FnExactSquareGabidulin.j0 k a1 t1147 t1162 true a0_0 a0_1 l0_2 a0_3 t1141 t1142 t1143 t1146 t1149 t1150 t1151 t1154 t1156 t1157 t1158 t1161))) = some r := H
  have A11 := Aq.mk A110
  clear A110
  have HC12 := Aq.mk H
  clear H
  go_enter Try.func15, Try.ntmps15
  go_upto_region 8 with (first | ((with_reducible refine gQd (N := 2) rfl ?_); refine xQe ?hg (N := 2) ?hd (cs := #[.int .i64 a0_0, .int .i64 a0_1, .slice A0_2 l0_2.length c0_2, .int .i64 a0_3]) (t := 45) ?hr ?_; (case hd => rfl); (case hg => rfl); (case hr => first | (go_simp; done) | (go_simp; rfl)); intro gb1133 hg w13 hbox hb; have n0_ := Aq.mk (bQT (by repeat (first | (with_reducible first | exact HB.out | apply bQA | apply bQN | apply bQ1) | exact HB.out)) hb); have n1_ := Aq.mk (hbox); have n2_ := Aq.mk ((by rw [hg]; exact (bQZ (by repeat (first | (with_reducible first | exact HB.out | apply bQA | apply bQN | apply bQ1) | exact HB.out))) : w.heap.size ≤ gb1133)); have n3_ := Aq.mk ((by rw [hg]; exact (bQZ (by repeat (first | (with_reducible first | exact HB.out | apply bQA | apply bQN | apply bQ1) | exact HB.out))) : w.heap.size ≤ gb1133)); clear HB; have HB := n0_; have BK1133 := n1_; have GW1133 := n2_; have GE1133 := n3_; clear n0_ n1_ n2_ n3_; clear hb hbox hg; have hcz14_0 : w13.cell? ⟨gb1133, 0, none⟩ = some (.int .i64 a0_0) := (kQC BK1133.out 0).trans rfl; have hcz14_1 : w13.cell? ⟨gb1133, 1, none⟩ = some (.int .i64 a0_1) := (kQC BK1133.out 1).trans rfl; have hcz14_2 : w13.cell? ⟨gb1133, 2, none⟩ = some (.slice A0_2 l0_2.length c0_2) := (kQC BK1133.out 2).trans rfl; have hcz14_3 : w13.cell? ⟨gb1133, 3, none⟩ = some (.int .i64 a0_3) := (kQC BK1133.out 3).trans rfl; have hfz14_0 := kQF BK1133.out 0; have hfz14_1 := kQF BK1133.out 1; have hfz14_2 := kQF BK1133.out 2; have hfz14_3 := kQF BK1133.out 3) | ((with_reducible refine gQc (f := 35) rfl ?_); refine goesL_ (some 18) rfl rfl Try.func35 (by kernel_rfl) rfl #[.agg #[.int .i64 a0_0, .int .i64 a0_1, .slice A0_2 l0_2.length c0_2, .int .i64 a0_3], .int .i64 1048576] rfl (by (try simp only [List.map_toArray, List.map_cons, List.map_nil]); first | done | rfl | (simp only [List.length_drop, List.length_take]; rfl)) ?_; (with_reducible refine (laws_szGabidulin.calls a0_0 a0_1 _ _ l0_2 a0_3 1048576 t1134 _ ?side1 ?side2 A3.out).mono ?_); (case side1 => repeat (first | exact (Kd.C_below HR0_2.out HB.out) | (with_reducible refine Kd.CqA ?_ _) | (with_reducible refine Kd.CqN ?_ _) | (with_reducible refine Kd.CqD ?_))); (case side2 => exact HC0_2.out); rintro e w15 ⟨rfl, hb⟩; refine ⟨_, rfl, ?_⟩; have n0_ := Aq.mk (kQB (g := gb1133) (o := .cells #[.int .i64 a0_0, .int .i64 a0_1, .slice A0_2 l0_2.length c0_2, .int .i64 a0_3] 45 (0, 0)) (by (with_reducible repeat (first | refine kQN ?_ _ | refine kQD ?_ | refine kQA ?_ _)); exact BK1133.out) hb); have n1_ := Aq.mk (bQT (by repeat (first | (with_reducible first | exact HB.out | apply bQA | apply bQN | apply bQ1 | refine bQS ?_ GE1133.out) | exact HB.out)) hb); clear BK1133; clear HB; have BK1133 := n0_; have HB := n1_; clear n0_ n1_; (try clear hb); (try clear hb2); (try clear hk); (try clear hi); have hcz16_0 : w15.cell? ⟨gb1133, 0, none⟩ = some (.int .i64 a0_0) := (kQC BK1133.out 0).trans rfl; have hcz16_1 : w15.cell? ⟨gb1133, 1, none⟩ = some (.int .i64 a0_1) := (kQC BK1133.out 1).trans rfl; have hcz16_2 : w15.cell? ⟨gb1133, 2, none⟩ = some (.slice A0_2 l0_2.length c0_2) := (kQC BK1133.out 2).trans rfl; have hcz16_3 : w15.cell? ⟨gb1133, 3, none⟩ = some (.int .i64 a0_3) := (kQC BK1133.out 3).trans rfl; have hfz16_0 := kQF BK1133.out 0; have hfz16_1 := kQF BK1133.out 1; have hfz16_2 := kQF BK1133.out 2; have hfz16_3 := kQF BK1133.out 3) | ((with_reducible refine gQc (f := 37) rfl ?_); refine goesL_ (some 23) rfl rfl Try.func37 (by kernel_rfl) rfl #[.agg #[.int .i64 a0_0, .int .i64 a0_1, .slice A0_2 l0_2.length c0_2, .int .i64 a0_3]] rfl (by (try simp only [List.map_toArray, List.map_cons, List.map_nil]); first | done | rfl | (simp only [List.length_drop, List.length_take]; rfl)) ?_; (with_reducible refine (laws_toGabidulin.calls k a0_0 a0_1 _ _ l0_2 a0_3 t1135 t1136 t1137 t1140 _ ?side1 ?side2 A8.out).mono ?_); (case side1 => repeat (first | exact (Kd.C_below HR0_2.out HB.out) | (with_reducible refine Kd.CqA ?_ _) | (with_reducible refine Kd.CqN ?_ _) | (with_reducible refine Kd.CqD ?_))); (case side2 => exact HC0_2.out); rintro e w17 ⟨v1138, rfl, ho0, hb⟩; refine ⟨_, rfl, ?_⟩; have n0_ := Aq.mk (Kd.R_lower ho0 (bQZ (by repeat (first | (with_reducible first | exact HB.out | apply bQA | apply bQN | apply bQ1 | refine bQS ?_ GE1133.out) | exact HB.out)))); have n1_ := Aq.mk (kQB (g := gb1133) (o := .cells #[.int .i64 a0_0, .int .i64 a0_1, .slice A0_2 l0_2.length c0_2, .int .i64 a0_3] 45 (0, 0)) (by (with_reducible repeat (first | refine kQN ?_ _ | refine kQD ?_ | refine kQA ?_ _)); exact BK1133.out) hb); have n2_ := Aq.mk (bQT (by repeat (first | (with_reducible first | exact HB.out | apply bQA | apply bQN | apply bQ1 | refine bQS ?_ GE1133.out) | exact HB.out)) hb); clear BK1133; clear HB; have HO1139 := n0_; have BK1133 := n1_; have HB := n2_; clear n0_ n1_ n2_; (try clear hb); (try clear hb2); (try clear hk); (try clear hi); (try clear ho0); obtain ⟨Ao18, co18, eo18⟩ := Kd.R_slice HO1139.out; subst eo18) | ((with_reducible refine gQc (f := 59) rfl ?_); refine goesL_ (some 25) rfl rfl Try.func59 (by kernel_rfl) rfl #[.agg #[.int .i64 t1135, .int .i64 t1136, .slice Ao18 t1137.length co18, .int .i64 t1140], .int .i64 a1] rfl (by (try simp only [List.map_toArray, List.map_cons, List.map_nil]); first | done | rfl | (simp only [List.length_drop, List.length_take]; rfl)) ?_; (with_reducible refine (spec_SquareGabidulin.calls k t1135 t1136 _ _ t1137 t1140 a1 t1141 t1142 t1143 t1146 t1147 _ ?side1 ?side2 A9.out).mono ?_); (case side1 => repeat (first | exact (Kd.R_reads' HO1139.out).2.2 | (with_reducible refine Kd.CqA ?_ _) | (with_reducible refine Kd.CqN ?_ _) | (with_reducible refine Kd.CqD ?_))); (case side2 => exact (Kd.R_reads' HO1139.out).2.1); rintro e w19 ⟨v1144, rfl, ho0, hb⟩; refine ⟨_, rfl, ?_⟩; have n0_ := Aq.mk (Kd.R_elder' (by (with_reducible repeat (first | apply Kd.RqA | apply Kd.RqN | apply Kd.RqD)); exact HO1139.out) (Kd.R_base ho0) hb); have n1_ := Aq.mk (Kd.R_lower (Kd.R_new' ho0 (Kd.R_lt (by (with_reducible repeat (first | apply Kd.RqA | apply Kd.RqN | apply Kd.RqD)); exact HO1139.out))) (bQZ (by repeat (first | (with_reducible first | exact HB.out | apply bQA | apply bQN | apply bQ1 | refine bQS ?_ GE1133.out) | exact HB.out)))); have n2_ := Aq.mk (kQB (g := gb1133) (o := .cells #[.int .i64 a0_0, .int .i64 a0_1, .slice A0_2 l0_2.length c0_2, .int .i64 a0_3] 45 (0, 0)) (by (with_reducible repeat (first | refine kQN ?_ _ | refine kQD ?_ | refine kQA ?_ _)); exact BK1133.out) hb); have n3_ := Aq.mk (bQT (by repeat (first | (with_reducible first | exact HB.out | apply bQA | apply bQN | apply bQ1 | refine bQS ?_ GE1133.out) | exact HB.out)) hb); clear HO1139; clear BK1133; clear HB; have HO1139 := n0_; have HO1145 := n1_; have BK1133 := n2_; have HB := n3_; clear n0_ n1_ n2_ n3_; (try clear hb); (try clear hb2); (try clear hk); (try clear hi); (try clear ho0)) | ((with_reducible refine gQd (N := 6) rfl ?_); refine xQe ?hg (N := 6) ?hd (cs := #[.int .i64 0, .int .i64 0, .slice none 0 0, .int .i64 0]) (t := 49) ?hr ?_; (case hd => rfl); (case hg => rfl); (case hr => first | (go_simp; done) | (go_simp; rfl)); intro gb1148 hg w20 hbox hb; have n0_ := Aq.mk (Kd.R_below (by (with_reducible repeat (first | apply Kd.RqA | apply Kd.RqN | apply Kd.RqD)); exact HO1139.out) hb); have n1_ := Aq.mk (Kd.R_below (by (with_reducible repeat (first | apply Kd.RqA | apply Kd.RqN | apply Kd.RqD)); exact HO1145.out) hb); have n2_ := Aq.mk (kQB (g := gb1133) (o := .cells #[.int .i64 a0_0, .int .i64 a0_1, .slice A0_2 l0_2.length c0_2, .int .i64 a0_3] 45 (0, 0)) (by (with_reducible repeat (first | refine kQN ?_ _ | refine kQD ?_ | refine kQA ?_ _)); exact BK1133.out) hb); have n3_ := Aq.mk (bQT (by repeat (first | (with_reducible first | exact HB.out | apply bQA | apply bQN | apply bQ1 | refine bQS ?_ GE1133.out) | exact HB.out)) hb); have n4_ := Aq.mk (hbox); have n5_ := Aq.mk ((by rw [hg]; exact (bQZ (by repeat (first | (with_reducible first | exact HB.out | apply bQA | apply bQN | apply bQ1 | refine bQS ?_ GE1133.out) | exact HB.out))) : w.heap.size ≤ gb1148)); have n6_ := Aq.mk ((by rw [hg]; exact (bQZ (by repeat (first | (with_reducible first | exact HB.out | apply bQA | apply bQN | apply bQ1 | refine bQS ?_ GE1133.out) | exact HB.out))) : w.heap.size ≤ gb1148)); have n7_ := Aq.mk ((by rw [hg]; exact Nat.ne_of_lt (blk_lt (g := gb1133) (o := .cells #[.int .i64 a0_0, .int .i64 a0_1, .slice A0_2 l0_2.length c0_2, .int .i64 a0_3] 45 (0, 0)) (by (with_reducible repeat (first | refine kQN ?_ _ | refine kQD ?_ | refine kQA ?_ _)); exact BK1133.out)) : gb1133 ≠ gb1148)); have n8_ := Aq.mk ((by rw [hg]; exact Nat.ne_of_gt (blk_lt (g := gb1133) (o := .cells #[.int .i64 a0_0, .int .i64 a0_1, .slice A0_2 l0_2.length c0_2, .int .i64 a0_3] 45 (0, 0)) (by (with_reducible repeat (first | refine kQN ?_ _ | refine kQD ?_ | refine kQA ?_ _)); exact BK1133.out)) : gb1148 ≠ gb1133)); clear HO1139; clear HO1145; clear BK1133; clear HB; have HO1139 := n0_; have HO1145 := n1_; have BK1133 := n2_; have HB := n3_; have BK1148 := n4_; have GW1148 := n5_; have GE1148 := n6_; have NB1133_1148 := n7_; have NB1148_1133 := n8_; clear n0_ n1_ n2_ n3_ n4_ n5_ n6_ n7_ n8_; clear hb hbox hg; have hnb21 := NB1148_1133.out; have hnc21 := NB1133_1148.out; have hcz22_0 : w20.cell? ⟨gb1148, 0, none⟩ = some (.int .i64 0) := (kQC BK1148.out 0).trans rfl; have hcz22_1 : w20.cell? ⟨gb1148, 1, none⟩ = some (.int .i64 0) := (kQC BK1148.out 1).trans rfl; have hcz22_2 : w20.cell? ⟨gb1148, 2, none⟩ = some (.slice none 0 0) := (kQC BK1148.out 2).trans rfl; have hcz22_3 : w20.cell? ⟨gb1148, 3, none⟩ = some (.int .i64 0) := (kQC BK1148.out 3).trans rfl; have hfz22_0 := kQF BK1148.out 0; have hfz22_1 := kQF BK1148.out 1; have hfz22_2 := kQF BK1148.out 2; have hfz22_3 := kQF BK1148.out 3; obtain ⟨Ao23, co23, eo23⟩ := Kd.R_slice HO1145.out; subst eo23; have hcz24_0 : w20.cell? ⟨gb1133, 0, none⟩ = some (.int .i64 a0_0) := (kQC BK1133.out 0).trans rfl; have hcz24_1 : w20.cell? ⟨gb1133, 1, none⟩ = some (.int .i64 a0_1) := (kQC BK1133.out 1).trans rfl; have hcz24_2 : w20.cell? ⟨gb1133, 2, none⟩ = some (.slice A0_2 l0_2.length c0_2) := (kQC BK1133.out 2).trans rfl; have hcz24_3 : w20.cell? ⟨gb1133, 3, none⟩ = some (.int .i64 a0_3) := (kQC BK1133.out 3).trans rfl; have hfz24_0 := kQF BK1133.out 0; have hfz24_1 := kQF BK1133.out 1; have hfz24_2 := kQF BK1133.out 2; have hfz24_3 := kQF BK1133.out 3) | ((with_reducible refine gQc (f := 37) rfl ?_); refine goesL_ (some 29) rfl rfl Try.func37 (by kernel_rfl) rfl #[.agg #[.int .i64 a0_0, .int .i64 a0_1, .slice A0_2 l0_2.length c0_2, .int .i64 a0_3]] rfl (by (try simp only [List.map_toArray, List.map_cons, List.map_nil]); first | done | rfl | (simp only [List.length_drop, List.length_take]; rfl)) ?_; (with_reducible refine (laws_toGabidulin.calls k a0_0 a0_1 _ _ l0_2 a0_3 t1149 t1150 t1151 t1154 _ ?side1 ?side2 A10.out).mono ?_); (case side1 => exact Kd.C_below HR0_2.out (by repeat (first | (with_reducible first | exact HB.out | apply bQA | apply bQN | apply bQ1 | refine bQS ?_ GE1133.out | refine bQS ?_ GE1148.out) | exact HB.out))); (case side2 => exact HC0_2.out); rintro e w25 ⟨v1152, rfl, ho0, hb⟩; refine ⟨_, rfl, ?_⟩; have n0_ := Aq.mk (Kd.R_elder' (by (with_reducible repeat (first | apply Kd.RqA | apply Kd.RqN | apply Kd.RqD)); exact (Kd.R_mono (Kd.R_far (p := ⟨gb1148, 3, none⟩) (Kd.R_far (p := ⟨gb1148, 2, none⟩) (Kd.R_far (p := ⟨gb1148, 1, none⟩) (Kd.R_far (p := ⟨gb1148, 0, none⟩) (Kd.R_types HO1139.out BK1148.out (by decide)) (fun _ hk => hk.2) (.int .i64 t1141)) (fun _ hk => hk.2) (.int .i64 t1142)) (fun _ hk => hk.2) (.slice Ao23 t1143.length co23)) (fun _ hk => hk.2) (.int .i64 t1146)) (fun _ h_ => h_.1))) (Kd.R_base ho0) hb); have n1_ := Aq.mk (Kd.R_elder' (by (with_reducible repeat (first | apply Kd.RqA | apply Kd.RqN | apply Kd.RqD)); exact (Kd.R_mono (Kd.R_far (p := ⟨gb1148, 3, none⟩) (Kd.R_far (p := ⟨gb1148, 2, none⟩) (Kd.R_far (p := ⟨gb1148, 1, none⟩) (Kd.R_far (p := ⟨gb1148, 0, none⟩) (Kd.R_types HO1145.out BK1148.out (by decide)) (fun _ hk => hk.2) (.int .i64 t1141)) (fun _ hk => hk.2) (.int .i64 t1142)) (fun _ hk => hk.2) (.slice Ao23 t1143.length co23)) (fun _ hk => hk.2) (.int .i64 t1146)) (fun _ h_ => h_.1))) (Kd.R_base ho0) hb); have n2_ := Aq.mk (Kd.R_lower (Kd.R_new' (Kd.R_new' ho0 (Kd.R_lt (by (with_reducible repeat (first | apply Kd.RqA | apply Kd.RqN | apply Kd.RqD)); exact (Kd.R_mono (Kd.R_far (p := ⟨gb1148, 3, none⟩) (Kd.R_far (p := ⟨gb1148, 2, none⟩) (Kd.R_far (p := ⟨gb1148, 1, none⟩) (Kd.R_far (p := ⟨gb1148, 0, none⟩) (Kd.R_types HO1139.out BK1148.out (by decide)) (fun _ hk => hk.2) (.int .i64 t1141)) (fun _ hk => hk.2) (.int .i64 t1142)) (fun _ hk => hk.2) (.slice Ao23 t1143.length co23)) (fun _ hk => hk.2) (.int .i64 t1146)) (fun _ h_ => h_.1))))) (Kd.R_lt (by (with_reducible repeat (first | apply Kd.RqA | apply Kd.RqN | apply Kd.RqD)); exact (Kd.R_mono (Kd.R_far (p := ⟨gb1148, 3, none⟩) (Kd.R_far (p := ⟨gb1148, 2, none⟩) (Kd.R_far (p := ⟨gb1148, 1, none⟩) (Kd.R_far (p := ⟨gb1148, 0, none⟩) (Kd.R_types HO1145.out BK1148.out (by decide)) (fun _ hk => hk.2) (.int .i64 t1141)) (fun _ hk => hk.2) (.int .i64 t1142)) (fun _ hk => hk.2) (.slice Ao23 t1143.length co23)) (fun _ hk => hk.2) (.int .i64 t1146)) (fun _ h_ => h_.1))))) (bQZ (by repeat (first | (with_reducible first | exact HB.out | apply bQA | apply bQN | apply bQ1 | refine bQS ?_ GE1133.out | refine bQS ?_ GE1148.out) | exact HB.out)))); have n3_ := Aq.mk (kQB (g := gb1133) (o := .cells #[.int .i64 a0_0, .int .i64 a0_1, .slice A0_2 l0_2.length c0_2, .int .i64 a0_3] 45 (0, 0)) (by (with_reducible repeat (first | refine kQN ?_ _ | refine kQD ?_ | refine kQA ?_ _)); refine kQR ?_ NB1133_1148.out _; (with_reducible repeat (first | refine kQN ?_ _ | refine kQD ?_ | refine kQA ?_ _)); refine kQR ?_ NB1133_1148.out _; (with_reducible repeat (first | refine kQN ?_ _ | refine kQD ?_ | refine kQA ?_ _)); refine kQR ?_ NB1133_1148.out _; (with_reducible repeat (first | refine kQN ?_ _ | refine kQD ?_ | refine kQA ?_ _)); refine kQR ?_ NB1133_1148.out _; (with_reducible repeat (first | refine kQN ?_ _ | refine kQD ?_ | refine kQA ?_ _)); exact BK1133.out) hb); have n4_ := Aq.mk (kQB (g := gb1148) (o := .cells #[.int .i64 t1141, .int .i64 t1142, .slice Ao23 t1143.length co23, .int .i64 t1146] 49 (0, 0)) (by (with_reducible repeat (first | refine kQN ?_ _ | refine kQD ?_ | refine kQA ?_ _)); refine kQP (cs := #[.int .i64 t1141, .int .i64 t1142, .slice Ao23 t1143.length co23, .int .i64 0]) ?_ 3 _ rfl; (with_reducible repeat (first | refine kQN ?_ _ | refine kQD ?_ | refine kQA ?_ _)); refine kQP (cs := #[.int .i64 t1141, .int .i64 t1142, .slice none 0 0, .int .i64 0]) ?_ 2 _ rfl; (with_reducible repeat (first | refine kQN ?_ _ | refine kQD ?_ | refine kQA ?_ _)); refine kQP (cs := #[.int .i64 t1141, .int .i64 0, .slice none 0 0, .int .i64 0]) ?_ 1 _ rfl; (with_reducible repeat (first | refine kQN ?_ _ | refine kQD ?_ | refine kQA ?_ _)); refine kQP (cs := #[.int .i64 0, .int .i64 0, .slice none 0 0, .int .i64 0]) ?_ 0 _ rfl; (with_reducible repeat (first | refine kQN ?_ _ | refine kQD ?_ | refine kQA ?_ _)); exact BK1148.out) hb); have n5_ := Aq.mk (bQT (by repeat (first | (with_reducible first | exact HB.out | apply bQA | apply bQN | apply bQ1 | refine bQS ?_ GE1133.out | refine bQS ?_ GE1148.out) | exact HB.out)) hb); clear HO1139; clear HO1145; clear BK1133; clear BK1148; clear HB; have HO1139 := n0_; have HO1145 := n1_; have HO1153 := n2_; have BK1133 := n3_; have BK1148 := n4_; have HB := n5_; clear n0_ n1_ n2_ n3_ n4_ n5_; (try clear hb); (try clear hb2); (try clear hk); (try clear hi); (try clear ho0)) | ((with_reducible refine gQd (N := 8) rfl ?_); refine xQe ?hg (N := 8) ?hd (cs := #[.int .i64 0, .int .i64 0, .slice none 0 0, .int .i64 0]) (t := 49) ?hr ?_; (case hd => rfl); (case hg => rfl); (case hr => first | (go_simp; done) | (go_simp; rfl)); intro gb1155 hg w26 hbox hb; have n0_ := Aq.mk (Kd.R_below (by (with_reducible repeat (first | apply Kd.RqA | apply Kd.RqN | apply Kd.RqD)); exact HO1139.out) hb); have n1_ := Aq.mk (Kd.R_below (by (with_reducible repeat (first | apply Kd.RqA | apply Kd.RqN | apply Kd.RqD)); exact HO1145.out) hb); have n2_ := Aq.mk (Kd.R_below (by (with_reducible repeat (first | apply Kd.RqA | apply Kd.RqN | apply Kd.RqD)); exact HO1153.out) hb); have n3_ := Aq.mk (kQB (g := gb1133) (o := .cells #[.int .i64 a0_0, .int .i64 a0_1, .slice A0_2 l0_2.length c0_2, .int .i64 a0_3] 45 (0, 0)) (by (with_reducible repeat (first | refine kQN ?_ _ | refine kQD ?_ | refine kQA ?_ _)); exact BK1133.out) hb); have n4_ := Aq.mk (kQB (g := gb1148) (o := .cells #[.int .i64 t1141, .int .i64 t1142, .slice Ao23 t1143.length co23, .int .i64 t1146] 49 (0, 0)) (by (with_reducible repeat (first | refine kQN ?_ _ | refine kQD ?_ | refine kQA ?_ _)); exact BK1148.out) hb); have n5_ := Aq.mk (bQT (by repeat (first | (with_reducible first | exact HB.out | apply bQA | apply bQN | apply bQ1 | refine bQS ?_ GE1133.out | refine bQS ?_ GE1148.out) | exact HB.out)) hb); have n6_ := Aq.mk (hbox); have n7_ := Aq.mk ((by rw [hg]; exact (bQZ (by repeat (first | (with_reducible first | exact HB.out | apply bQA | apply bQN | apply bQ1 | refine bQS ?_ GE1133.out | refine bQS ?_ GE1148.out) | exact HB.out))) : w.heap.size ≤ gb1155)); have n8_ := Aq.mk ((by rw [hg]; exact (bQZ (by repeat (first | (with_reducible first | exact HB.out | apply bQA | apply bQN | apply bQ1 | refine bQS ?_ GE1133.out | refine bQS ?_ GE1148.out) | exact HB.out))) : w.heap.size ≤ gb1155)); have n9_ := Aq.mk ((by rw [hg]; exact Nat.ne_of_lt (blk_lt (g := gb1133) (o := .cells #[.int .i64 a0_0, .int .i64 a0_1, .slice A0_2 l0_2.length c0_2, .int .i64 a0_3] 45 (0, 0)) (by (with_reducible repeat (first | refine kQN ?_ _ | refine kQD ?_ | refine kQA ?_ _)); exact BK1133.out)) : gb1133 ≠ gb1155)); have n10_ := Aq.mk ((by rw [hg]; exact Nat.ne_of_gt (blk_lt (g := gb1133) (o := .cells #[.int .i64 a0_0, .int .i64 a0_1, .slice A0_2 l0_2.length c0_2, .int .i64 a0_3] 45 (0, 0)) (by (with_reducible repeat (first | refine kQN ?_ _ | refine kQD ?_ | refine kQA ?_ _)); exact BK1133.out)) : gb1155 ≠ gb1133)); have n11_ := Aq.mk ((by rw [hg]; exact Nat.ne_of_lt (blk_lt (g := gb1148) (o := .cells #[.int .i64 t1141, .int .i64 t1142, .slice Ao23 t1143.length co23, .int .i64 t1146] 49 (0, 0)) (by (with_reducible repeat (first | refine kQN ?_ _ | refine kQD ?_ | refine kQA ?_ _)); exact BK1148.out)) : gb1148 ≠ gb1155)); have n12_ := Aq.mk ((by rw [hg]; exact Nat.ne_of_gt (blk_lt (g := gb1148) (o := .cells #[.int .i64 t1141, .int .i64 t1142, .slice Ao23 t1143.length co23, .int .i64 t1146] 49 (0, 0)) (by (with_reducible repeat (first | refine kQN ?_ _ | refine kQD ?_ | refine kQA ?_ _)); exact BK1148.out)) : gb1155 ≠ gb1148)); clear HO1139; clear HO1145; clear HO1153; clear BK1133; clear BK1148; clear HB; have HO1139 := n0_; have HO1145 := n1_; have HO1153 := n2_; have BK1133 := n3_; have BK1148 := n4_; have HB := n5_; have BK1155 := n6_; have GW1155 := n7_; have GE1155 := n8_; have NB1133_1155 := n9_; have NB1155_1133 := n10_; have NB1148_1155 := n11_; have NB1155_1148 := n12_; clear n0_ n1_ n2_ n3_ n4_ n5_ n6_ n7_ n8_ n9_ n10_ n11_ n12_; clear hb hbox hg; have hnb27 := NB1155_1133.out; have hnc27 := NB1133_1155.out; have hnb28 := NB1155_1148.out; have hnc28 := NB1148_1155.out; have hcz29_0 : w26.cell? ⟨gb1155, 0, none⟩ = some (.int .i64 0) := (kQC BK1155.out 0).trans rfl; have hcz29_1 : w26.cell? ⟨gb1155, 1, none⟩ = some (.int .i64 0) := (kQC BK1155.out 1).trans rfl; have hcz29_2 : w26.cell? ⟨gb1155, 2, none⟩ = some (.slice none 0 0) := (kQC BK1155.out 2).trans rfl; have hcz29_3 : w26.cell? ⟨gb1155, 3, none⟩ = some (.int .i64 0) := (kQC BK1155.out 3).trans rfl; have hfz29_0 := kQF BK1155.out 0; have hfz29_1 := kQF BK1155.out 1; have hfz29_2 := kQF BK1155.out 2; have hfz29_3 := kQF BK1155.out 3; obtain ⟨Ao30, co30, eo30⟩ := Kd.R_slice HO1153.out; subst eo30) | ((with_reducible refine gQc (f := 60) rfl ?_); refine goesL_ (some 33) rfl rfl Try.func60 (by kernel_rfl) rfl #[.agg #[.int .i64 t1149, .int .i64 t1150, .slice Ao30 t1151.length co30, .int .i64 t1154], .int .i64 a1] rfl (by (try simp only [List.map_toArray, List.map_cons, List.map_nil]); first | done | rfl | (simp only [List.length_drop, List.length_take]; rfl)) ?_; (with_reducible refine (impl_SquareGabidulin.calls k t1149 t1150 _ _ t1151 t1154 a1 t1156 t1157 t1158 t1161 t1162 _ ?side1 ?side2 A11.out).mono ?_); (case side1 => refine (Kd.R_reads' (e := 2) (base := w.heap.size) (ok := fun k_ => ((True ∧ some k_ ≠ (.slice Ao18 t1137.length co18 : Value).ownBlock) ∧ some k_ ≠ (.slice Ao23 t1143.length co23 : Value).ownBlock)) (n := t1151.length) (c := co30) ?_).2.2; exact (by (with_reducible repeat (first | apply Kd.RqA | apply Kd.RqN | apply Kd.RqD)); exact (Kd.R_mono (Kd.R_far (p := ⟨gb1155, 3, none⟩) (Kd.R_far (p := ⟨gb1155, 2, none⟩) (Kd.R_far (p := ⟨gb1155, 1, none⟩) (Kd.R_far (p := ⟨gb1155, 0, none⟩) (Kd.R_types HO1153.out BK1155.out (by decide)) (fun _ hk => hk.2) (.int .i64 t1149)) (fun _ hk => hk.2) (.int .i64 t1150)) (fun _ hk => hk.2) (.slice Ao30 t1151.length co30)) (fun _ hk => hk.2) (.int .i64 t1154)) (fun _ h_ => h_.1)))); (case side2 => exact (Kd.R_reads' HO1153.out).2.1); rintro e w31 ⟨v1159, rfl, ho0, hb⟩; refine ⟨_, rfl, ?_⟩; have n0_ := Aq.mk (Kd.R_elder' (by (with_reducible repeat (first | apply Kd.RqA | apply Kd.RqN | apply Kd.RqD)); exact (Kd.R_mono (Kd.R_far (p := ⟨gb1155, 3, none⟩) (Kd.R_far (p := ⟨gb1155, 2, none⟩) (Kd.R_far (p := ⟨gb1155, 1, none⟩) (Kd.R_far (p := ⟨gb1155, 0, none⟩) (Kd.R_types HO1139.out BK1155.out (by decide)) (fun _ hk => hk.2) (.int .i64 t1149)) (fun _ hk => hk.2) (.int .i64 t1150)) (fun _ hk => hk.2) (.slice Ao30 t1151.length co30)) (fun _ hk => hk.2) (.int .i64 t1154)) (fun _ h_ => h_.1))) (Kd.R_base ho0) hb); have n1_ := Aq.mk (Kd.R_elder' (by (with_reducible repeat (first | apply Kd.RqA | apply Kd.RqN | apply Kd.RqD)); exact (Kd.R_mono (Kd.R_far (p := ⟨gb1155, 3, none⟩) (Kd.R_far (p := ⟨gb1155, 2, none⟩) (Kd.R_far (p := ⟨gb1155, 1, none⟩) (Kd.R_far (p := ⟨gb1155, 0, none⟩) (Kd.R_types HO1145.out BK1155.out (by decide)) (fun _ hk => hk.2) (.int .i64 t1149)) (fun _ hk => hk.2) (.int .i64 t1150)) (fun _ hk => hk.2) (.slice Ao30 t1151.length co30)) (fun _ hk => hk.2) (.int .i64 t1154)) (fun _ h_ => h_.1))) (Kd.R_base ho0) hb); have n2_ := Aq.mk (Kd.R_elder' (by (with_reducible repeat (first | apply Kd.RqA | apply Kd.RqN | apply Kd.RqD)); exact (Kd.R_mono (Kd.R_far (p := ⟨gb1155, 3, none⟩) (Kd.R_far (p := ⟨gb1155, 2, none⟩) (Kd.R_far (p := ⟨gb1155, 1, none⟩) (Kd.R_far (p := ⟨gb1155, 0, none⟩) (Kd.R_types HO1153.out BK1155.out (by decide)) (fun _ hk => hk.2) (.int .i64 t1149)) (fun _ hk => hk.2) (.int .i64 t1150)) (fun _ hk => hk.2) (.slice Ao30 t1151.length co30)) (fun _ hk => hk.2) (.int .i64 t1154)) (fun _ h_ => h_.1))) (Kd.R_base ho0) hb); have n3_ := Aq.mk (Kd.R_lower (Kd.R_new' (Kd.R_new' (Kd.R_new' ho0 (Kd.R_lt (by (with_reducible repeat (first | apply Kd.RqA | apply Kd.RqN | apply Kd.RqD)); exact (Kd.R_mono (Kd.R_far (p := ⟨gb1155, 3, none⟩) (Kd.R_far (p := ⟨gb1155, 2, none⟩) (Kd.R_far (p := ⟨gb1155, 1, none⟩) (Kd.R_far (p := ⟨gb1155, 0, none⟩) (Kd.R_types HO1139.out BK1155.out (by decide)) (fun _ hk => hk.2) (.int .i64 t1149)) (fun _ hk => hk.2) (.int .i64 t1150)) (fun _ hk => hk.2) (.slice Ao30 t1151.length co30)) (fun _ hk => hk.2) (.int .i64 t1154)) (fun _ h_ => h_.1))))) (Kd.R_lt (by (with_reducible repeat (first | apply Kd.RqA | apply Kd.RqN | apply Kd.RqD)); exact (Kd.R_mono (Kd.R_far (p := ⟨gb1155, 3, none⟩) (Kd.R_far (p := ⟨gb1155, 2, none⟩) (Kd.R_far (p := ⟨gb1155, 1, none⟩) (Kd.R_far (p := ⟨gb1155, 0, none⟩) (Kd.R_types HO1145.out BK1155.out (by decide)) (fun _ hk => hk.2) (.int .i64 t1149)) (fun _ hk => hk.2) (.int .i64 t1150)) (fun _ hk => hk.2) (.slice Ao30 t1151.length co30)) (fun _ hk => hk.2) (.int .i64 t1154)) (fun _ h_ => h_.1))))) (Kd.R_lt (by (with_reducible repeat (first | apply Kd.RqA | apply Kd.RqN | apply Kd.RqD)); exact (Kd.R_mono (Kd.R_far (p := ⟨gb1155, 3, none⟩) (Kd.R_far (p := ⟨gb1155, 2, none⟩) (Kd.R_far (p := ⟨gb1155, 1, none⟩) (Kd.R_far (p := ⟨gb1155, 0, none⟩) (Kd.R_types HO1153.out BK1155.out (by decide)) (fun _ hk => hk.2) (.int .i64 t1149)) (fun _ hk => hk.2) (.int .i64 t1150)) (fun _ hk => hk.2) (.slice Ao30 t1151.length co30)) (fun _ hk => hk.2) (.int .i64 t1154)) (fun _ h_ => h_.1))))) (bQZ (by repeat (first | (with_reducible first | exact HB.out | apply bQA | apply bQN | apply bQ1 | refine bQS ?_ GE1133.out | refine bQS ?_ GE1148.out | refine bQS ?_ GE1155.out) | exact HB.out)))); have n4_ := Aq.mk (kQB (g := gb1133) (o := .cells #[.int .i64 a0_0, .int .i64 a0_1, .slice A0_2 l0_2.length c0_2, .int .i64 a0_3] 45 (0, 0)) (by (with_reducible repeat (first | refine kQN ?_ _ | refine kQD ?_ | refine kQA ?_ _)); refine kQR ?_ NB1133_1155.out _; (with_reducible repeat (first | refine kQN ?_ _ | refine kQD ?_ | refine kQA ?_ _)); refine kQR ?_ NB1133_1155.out _; (with_reducible repeat (first | refine kQN ?_ _ | refine kQD ?_ | refine kQA ?_ _)); refine kQR ?_ NB1133_1155.out _; (with_reducible repeat (first | refine kQN ?_ _ | refine kQD ?_ | refine kQA ?_ _)); refine kQR ?_ NB1133_1155.out _; (with_reducible repeat (first | refine kQN ?_ _ | refine kQD ?_ | refine kQA ?_ _)); exact BK1133.out) hb); have n5_ := Aq.mk (kQB (g := gb1148) (o := .cells #[.int .i64 t1141, .int .i64 t1142, .slice Ao23 t1143.length co23, .int .i64 t1146] 49 (0, 0)) (by (with_reducible repeat (first | refine kQN ?_ _ | refine kQD ?_ | refine kQA ?_ _)); refine kQR ?_ NB1148_1155.out _; (with_reducible repeat (first | refine kQN ?_ _ | refine kQD ?_ | refine kQA ?_ _)); refine kQR ?_ NB1148_1155.out _; (with_reducible repeat (first | refine kQN ?_ _ | refine kQD ?_ | refine kQA ?_ _)); refine kQR ?_ NB1148_1155.out _; (with_reducible repeat (first | refine kQN ?_ _ | refine kQD ?_ | refine kQA ?_ _)); refine kQR ?_ NB1148_1155.out _; (with_reducible repeat (first | refine kQN ?_ _ | refine kQD ?_ | refine kQA ?_ _)); exact BK1148.out) hb); have n6_ := Aq.mk (kQB (g := gb1155) (o := .cells #[.int .i64 t1149, .int .i64 t1150, .slice Ao30 t1151.length co30, .int .i64 t1154] 49 (0, 0)) (by (with_reducible repeat (first | refine kQN ?_ _ | refine kQD ?_ | refine kQA ?_ _)); refine kQP (cs := #[.int .i64 t1149, .int .i64 t1150, .slice Ao30 t1151.length co30, .int .i64 0]) ?_ 3 _ rfl; (with_reducible repeat (first | refine kQN ?_ _ | refine kQD ?_ | refine kQA ?_ _)); refine kQP (cs := #[.int .i64 t1149, .int .i64 t1150, .slice none 0 0, .int .i64 0]) ?_ 2 _ rfl; (with_reducible repeat (first | refine kQN ?_ _ | refine kQD ?_ | refine kQA ?_ _)); refine kQP (cs := #[.int .i64 t1149, .int .i64 0, .slice none 0 0, .int .i64 0]) ?_ 1 _ rfl; (with_reducible repeat (first | refine kQN ?_ _ | refine kQD ?_ | refine kQA ?_ _)); refine kQP (cs := #[.int .i64 0, .int .i64 0, .slice none 0 0, .int .i64 0]) ?_ 0 _ rfl; (with_reducible repeat (first | refine kQN ?_ _ | refine kQD ?_ | refine kQA ?_ _)); exact BK1155.out) hb); have n7_ := Aq.mk (bQT (by repeat (first | (with_reducible first | exact HB.out | apply bQA | apply bQN | apply bQ1 | refine bQS ?_ GE1133.out | refine bQS ?_ GE1148.out | refine bQS ?_ GE1155.out) | exact HB.out)) hb); clear HO1139; clear HO1145; clear HO1153; clear BK1133; clear BK1148; clear BK1155; clear HB; have HO1139 := n0_; have HO1145 := n1_; have HO1153 := n2_; have HO1160 := n3_; have BK1133 := n4_; have BK1148 := n5_; have BK1155 := n6_; have HB := n7_; clear n0_ n1_ n2_ n3_ n4_ n5_ n6_ n7_; (try clear hb); (try clear hb2); (try clear hk); (try clear hi); (try clear ho0)) | ((with_reducible refine gQd (N := 9) rfl ?_); refine xQe ?hg (N := 9) ?hd (cs := #[.int .i64 0, .int .i64 0, .slice none 0 0, .int .i64 0]) (t := 49) ?hr ?_; (case hd => rfl); (case hg => rfl); (case hr => first | (go_simp; done) | (go_simp; rfl)); intro gb1163 hg w32 hbox hb; have n0_ := Aq.mk (Kd.R_below (by (with_reducible repeat (first | apply Kd.RqA | apply Kd.RqN | apply Kd.RqD)); exact HO1139.out) hb); have n1_ := Aq.mk (Kd.R_below (by (with_reducible repeat (first | apply Kd.RqA | apply Kd.RqN | apply Kd.RqD)); exact HO1145.out) hb); have n2_ := Aq.mk (Kd.R_below (by (with_reducible repeat (first | apply Kd.RqA | apply Kd.RqN | apply Kd.RqD)); exact HO1153.out) hb); have n3_ := Aq.mk (Kd.R_below (by (with_reducible repeat (first | apply Kd.RqA | apply Kd.RqN | apply Kd.RqD)); exact HO1160.out) hb); have n4_ := Aq.mk (kQB (g := gb1133) (o := .cells #[.int .i64 a0_0, .int .i64 a0_1, .slice A0_2 l0_2.length c0_2, .int .i64 a0_3] 45 (0, 0)) (by (with_reducible repeat (first | refine kQN ?_ _ | refine kQD ?_ | refine kQA ?_ _)); exact BK1133.out) hb); have n5_ := Aq.mk (kQB (g := gb1148) (o := .cells #[.int .i64 t1141, .int .i64 t1142, .slice Ao23 t1143.length co23, .int .i64 t1146] 49 (0, 0)) (by (with_reducible repeat (first | refine kQN ?_ _ | refine kQD ?_ | refine kQA ?_ _)); exact BK1148.out) hb); have n6_ := Aq.mk (kQB (g := gb1155) (o := .cells #[.int .i64 t1149, .int .i64 t1150, .slice Ao30 t1151.length co30, .int .i64 t1154] 49 (0, 0)) (by (with_reducible repeat (first | refine kQN ?_ _ | refine kQD ?_ | refine kQA ?_ _)); exact BK1155.out) hb); have n7_ := Aq.mk (bQT (by repeat (first | (with_reducible first | exact HB.out | apply bQA | apply bQN | apply bQ1 | refine bQS ?_ GE1133.out | refine bQS ?_ GE1148.out | refine bQS ?_ GE1155.out) | exact HB.out)) hb); have n8_ := Aq.mk (hbox); have n9_ := Aq.mk ((by rw [hg]; exact (bQZ (by repeat (first | (with_reducible first | exact HB.out | apply bQA | apply bQN | apply bQ1 | refine bQS ?_ GE1133.out | refine bQS ?_ GE1148.out | refine bQS ?_ GE1155.out) | exact HB.out))) : w.heap.size ≤ gb1163)); have n10_ := Aq.mk ((by rw [hg]; exact (bQZ (by repeat (first | (with_reducible first | exact HB.out | apply bQA | apply bQN | apply bQ1 | refine bQS ?_ GE1133.out | refine bQS ?_ GE1148.out | refine bQS ?_ GE1155.out) | exact HB.out))) : w.heap.size ≤ gb1163)); have n11_ := Aq.mk ((by rw [hg]; exact Nat.ne_of_lt (blk_lt (g := gb1133) (o := .cells #[.int .i64 a0_0, .int .i64 a0_1, .slice A0_2 l0_2.length c0_2, .int .i64 a0_3] 45 (0, 0)) (by (with_reducible repeat (first | refine kQN ?_ _ | refine kQD ?_ | refine kQA ?_ _)); exact BK1133.out)) : gb1133 ≠ gb1163)); have n12_ := Aq.mk ((by rw [hg]; exact Nat.ne_of_gt (blk_lt (g := gb1133) (o := .cells #[.int .i64 a0_0, .int .i64 a0_1, .slice A0_2 l0_2.length c0_2, .int .i64 a0_3] 45 (0, 0)) (by (with_reducible repeat (first | refine kQN ?_ _ | refine kQD ?_ | refine kQA ?_ _)); exact BK1133.out)) : gb1163 ≠ gb1133)); have n13_ := Aq.mk ((by rw [hg]; exact Nat.ne_of_lt (blk_lt (g := gb1148) (o := .cells #[.int .i64 t1141, .int .i64 t1142, .slice Ao23 t1143.length co23, .int .i64 t1146] 49 (0, 0)) (by (with_reducible repeat (first | refine kQN ?_ _ | refine kQD ?_ | refine kQA ?_ _)); exact BK1148.out)) : gb1148 ≠ gb1163)); have n14_ := Aq.mk ((by rw [hg]; exact Nat.ne_of_gt (blk_lt (g := gb1148) (o := .cells #[.int .i64 t1141, .int .i64 t1142, .slice Ao23 t1143.length co23, .int .i64 t1146] 49 (0, 0)) (by (with_reducible repeat (first | refine kQN ?_ _ | refine kQD ?_ | refine kQA ?_ _)); exact BK1148.out)) : gb1163 ≠ gb1148)); have n15_ := Aq.mk ((by rw [hg]; exact Nat.ne_of_lt (blk_lt (g := gb1155) (o := .cells #[.int .i64 t1149, .int .i64 t1150, .slice Ao30 t1151.length co30, .int .i64 t1154] 49 (0, 0)) (by (with_reducible repeat (first | refine kQN ?_ _ | refine kQD ?_ | refine kQA ?_ _)); exact BK1155.out)) : gb1155 ≠ gb1163)); have n16_ := Aq.mk ((by rw [hg]; exact Nat.ne_of_gt (blk_lt (g := gb1155) (o := .cells #[.int .i64 t1149, .int .i64 t1150, .slice Ao30 t1151.length co30, .int .i64 t1154] 49 (0, 0)) (by (with_reducible repeat (first | refine kQN ?_ _ | refine kQD ?_ | refine kQA ?_ _)); exact BK1155.out)) : gb1163 ≠ gb1155)); clear HO1139; clear HO1145; clear HO1153; clear HO1160; clear BK1133; clear BK1148; clear BK1155; clear HB; have HO1139 := n0_; have HO1145 := n1_; have HO1153 := n2_; have HO1160 := n3_; have BK1133 := n4_; have BK1148 := n5_; have BK1155 := n6_; have HB := n7_; have BK1163 := n8_; have GW1163 := n9_; have GE1163 := n10_; have NB1133_1163 := n11_; have NB1163_1133 := n12_; have NB1148_1163 := n13_; have NB1163_1148 := n14_; have NB1155_1163 := n15_; have NB1163_1155 := n16_; clear n0_ n1_ n2_ n3_ n4_ n5_ n6_ n7_ n8_ n9_ n10_ n11_ n12_ n13_ n14_ n15_ n16_; clear hb hbox hg; have hnb33 := NB1163_1133.out; have hnc33 := NB1133_1163.out; have hnb34 := NB1163_1148.out; have hnc34 := NB1148_1163.out; have hnb35 := NB1163_1155.out; have hnc35 := NB1155_1163.out; have hcz36_0 : w32.cell? ⟨gb1163, 0, none⟩ = some (.int .i64 0) := (kQC BK1163.out 0).trans rfl; have hcz36_1 : w32.cell? ⟨gb1163, 1, none⟩ = some (.int .i64 0) := (kQC BK1163.out 1).trans rfl; have hcz36_2 : w32.cell? ⟨gb1163, 2, none⟩ = some (.slice none 0 0) := (kQC BK1163.out 2).trans rfl; have hcz36_3 : w32.cell? ⟨gb1163, 3, none⟩ = some (.int .i64 0) := (kQC BK1163.out 3).trans rfl; have hfz36_0 := kQF BK1163.out 0; have hfz36_1 := kQF BK1163.out 1; have hfz36_2 := kQF BK1163.out 2; have hfz36_3 := kQF BK1163.out 3; obtain ⟨Ao37, co37, eo37⟩ := Kd.R_slice HO1160.out; subst eo37))
  (try simp only [Act.put, qSa, qSb, qSc])
  go_cut [44] (fun v44 wc => ∃ (kq : Nat) (x44_11 : Bool), v44 = .bool x44_11 ∧ Aq (laws_FnExactSquareGabidulin.j0 kq a1 t1147 t1162 x44_11 a0_0 a0_1 l0_2 a0_3 t1141 t1142 t1143 t1146 t1149 t1150 t1151 t1154 t1156 t1157 t1158 t1161 = some r) ∧ Aq (kq ≤ k) ∧ Aq (Kd.R (Kd.int .i64) 2 wc w.heap.size (fun k_ => some k_ ≠ ((.slice Ao30 t1151.length co30) : Value).ownBlock ∧ some k_ ≠ ((.slice Ao37 t1158.length co37) : Value).ownBlock) (.slice Ao23 t1143.length co23) t1143) ∧ Aq (Kd.R (Kd.int .i64) 2 wc w.heap.size (fun k_ => some k_ ≠ ((.slice Ao23 t1143.length co23) : Value).ownBlock ∧ some k_ ≠ ((.slice Ao37 t1158.length co37) : Value).ownBlock) (.slice Ao30 t1151.length co30) t1151) ∧ Aq (Kd.R (Kd.int .i64) 2 wc w.heap.size (fun k_ => some k_ ≠ ((.slice Ao23 t1143.length co23) : Value).ownBlock ∧ some k_ ≠ ((.slice Ao30 t1151.length co30) : Value).ownBlock) (.slice Ao37 t1158.length co37) t1158) ∧ Aq (wc.heap[gb1133]? = some (.cells #[.int .i64 a0_0, .int .i64 a0_1, (.slice A0_2 l0_2.length c0_2), .int .i64 a0_3] 45 (0, 0))) ∧ Aq (wc.heap[gb1148]? = some (.cells #[.int .i64 t1141, .int .i64 t1142, (.slice Ao23 t1143.length co23), .int .i64 t1146] 49 (0, 0))) ∧ Aq (wc.heap[gb1155]? = some (.cells #[.int .i64 t1149, .int .i64 t1150, (.slice Ao30 t1151.length co30), .int .i64 t1154] 49 (0, 0))) ∧ Aq (wc.heap[gb1163]? = some (.cells #[.int .i64 t1156, .int .i64 t1157, (.slice Ao37 t1158.length co37), .int .i64 t1161] 49 (0, 0))) ∧ Aq (Below w.heap.size w wc))
  case first =>
   have H := HC12.out
   clear HC12
   replace H := Option.bind_eq_some_iff.mp H
   obtain ⟨t1164, A380, H⟩ := H
   replace H : (if t1164 = true then (laws_FnExactSquareGabidulin.j0 k a1 t1147 t1162 (t1162 != t1147) a0_0 a0_1 l0_2 a0_3 t1141 t1142 t1143 t1146 t1149 t1150 t1151 t1154 t1156 t1157 t1158 t1161) else (laws_FnExactSquareGabidulin.j0 k a1 t1147 t1162 true a0_0 a0_1 l0_2 a0_3 t1141 t1142 t1143 t1146 t1149 t1150 t1151 t1154 t1156 t1157 t1158 t1161)) = some r := H
   have A38 := Aq.mk A380
   clear A380
   by_cases c39 : t1164 = true
   ·subst c39
    have H1 : (laws_FnExactSquareGabidulin.j0 k a1 t1147 t1162 (t1162 != t1147) a0_0 a0_1 l0_2 a0_3 t1141 t1142 t1143 t1146 t1149 t1150 t1151 t1154 t1156 t1157 t1158 t1161) = some r := by rw [if_pos rfl] at H; exact H
    clear H
    have H := H1
    clear H1
    have H' := Aq.mk H
    clear H
    have hnb40 := NB1163_1133.out
    have hnc40 := NB1133_1163.out
    have hnb41 := NB1163_1148.out
    have hnc41 := NB1148_1163.out
    have hnb42 := NB1163_1155.out
    have hnc42 := NB1155_1163.out
    have hcz43_0 : w32.cell? ⟨gb1163, 0, none⟩ = some (.int .i64 0) := (kQC BK1163.out 0).trans rfl
    have hcz43_1 : w32.cell? ⟨gb1163, 1, none⟩ = some (.int .i64 0) := (kQC BK1163.out 1).trans rfl
    have hcz43_2 : w32.cell? ⟨gb1163, 2, none⟩ = some (.slice none 0 0) := (kQC BK1163.out 2).trans rfl
    have hcz43_3 : w32.cell? ⟨gb1163, 3, none⟩ = some (.int .i64 0) := (kQC BK1163.out 3).trans rfl
    have hfz43_0 := kQF BK1163.out 0
    have hfz43_1 := kQF BK1163.out 1
    have hfz43_2 := kQF BK1163.out 2
    have hfz43_3 := kQF BK1163.out 3
    have hnb44 := NB1148_1133.out
    have hnc44 := NB1133_1148.out
    have hnb45 := NB1148_1155.out
    have hnc45 := NB1155_1148.out
    have hcz46_0 : w32.cell? ⟨gb1148, 0, none⟩ = some (.int .i64 t1141) := (kQC BK1148.out 0).trans rfl
    have hcz46_1 : w32.cell? ⟨gb1148, 1, none⟩ = some (.int .i64 t1142) := (kQC BK1148.out 1).trans rfl
    have hcz46_2 : w32.cell? ⟨gb1148, 2, none⟩ = some (.slice Ao23 t1143.length co23) := (kQC BK1148.out 2).trans rfl
    have hcz46_3 : w32.cell? ⟨gb1148, 3, none⟩ = some (.int .i64 t1146) := (kQC BK1148.out 3).trans rfl
    have hfz46_0 := kQF BK1148.out 0
    have hfz46_1 := kQF BK1148.out 1
    have hfz46_2 := kQF BK1148.out 2
    have hfz46_3 := kQF BK1148.out 3
    go_wp2_with (first | ((with_reducible refine gQc (f := 39) rfl ?_); refine goesL_ (some 38) rfl rfl Try.func39 (by kernel_rfl) rfl #[.agg #[.int .i64 t1156, .int .i64 t1157, .slice Ao37 t1158.length co37, .int .i64 t1161], .agg #[.int .i64 t1141, .int .i64 t1142, .slice Ao23 t1143.length co23, .int .i64 t1146]] rfl (by (try simp only [List.map_toArray, List.map_cons, List.map_nil]); first | done | rfl | (simp only [List.length_drop, List.length_take]; rfl)) ?_; (with_reducible refine (laws_eqGabidulin.calls k t1156 t1157 _ _ t1158 t1161 t1141 t1142 _ _ t1143 t1146 true _ ?side1 ?side2 ?side3 ?side4 A38.out).mono ?_); (case side1 => refine (Kd.R_reads' (e := 2) (base := w.heap.size) (ok := fun k_ => (((True ∧ some k_ ≠ (.slice Ao18 t1137.length co18 : Value).ownBlock) ∧ some k_ ≠ (.slice Ao23 t1143.length co23 : Value).ownBlock) ∧ some k_ ≠ (.slice Ao30 t1151.length co30 : Value).ownBlock)) (n := t1158.length) (c := co37) ?_).2.2; exact (by (with_reducible repeat (first | apply Kd.RqA | apply Kd.RqN | apply Kd.RqD)); exact (Kd.R_mono (Kd.R_far (p := ⟨gb1163, 3, none⟩) (Kd.R_far (p := ⟨gb1163, 2, none⟩) (Kd.R_far (p := ⟨gb1163, 1, none⟩) (Kd.R_far (p := ⟨gb1163, 0, none⟩) (Kd.R_types HO1160.out BK1163.out (by decide)) (fun _ hk => hk.2) (.int .i64 t1156)) (fun _ hk => hk.2) (.int .i64 t1157)) (fun _ hk => hk.2) (.slice Ao37 t1158.length co37)) (fun _ hk => hk.2) (.int .i64 t1161)) (fun _ h_ => h_.1)))); (case side2 => exact (Kd.R_reads' HO1160.out).2.1); (case side3 => refine (Kd.R_reads' (e := 2) (base := w.heap.size) (ok := fun k_ => (((True ∧ some k_ ≠ (.slice Ao18 t1137.length co18 : Value).ownBlock) ∧ some k_ ≠ (.slice Ao30 t1151.length co30 : Value).ownBlock) ∧ some k_ ≠ (.slice Ao37 t1158.length co37 : Value).ownBlock)) (n := t1143.length) (c := co23) ?_).2.2; exact (by (with_reducible repeat (first | apply Kd.RqA | apply Kd.RqN | apply Kd.RqD)); exact (Kd.R_mono (Kd.R_far (p := ⟨gb1163, 3, none⟩) (Kd.R_far (p := ⟨gb1163, 2, none⟩) (Kd.R_far (p := ⟨gb1163, 1, none⟩) (Kd.R_far (p := ⟨gb1163, 0, none⟩) (Kd.R_types HO1145.out BK1163.out (by decide)) (fun _ hk => hk.2) (.int .i64 t1156)) (fun _ hk => hk.2) (.int .i64 t1157)) (fun _ hk => hk.2) (.slice Ao37 t1158.length co37)) (fun _ hk => hk.2) (.int .i64 t1161)) (fun _ h_ => h_.1)))); (case side4 => exact (Kd.R_reads' HO1145.out).2.1); rintro e w47 ⟨rfl, hb⟩; refine ⟨_, rfl, ?_⟩; have n0_ := Aq.mk (Kd.R_below (by (with_reducible repeat (first | apply Kd.RqA | apply Kd.RqN | apply Kd.RqD)); exact (Kd.R_mono (Kd.R_far (p := ⟨gb1163, 3, none⟩) (Kd.R_far (p := ⟨gb1163, 2, none⟩) (Kd.R_far (p := ⟨gb1163, 1, none⟩) (Kd.R_far (p := ⟨gb1163, 0, none⟩) (Kd.R_types HO1139.out BK1163.out (by decide)) (fun _ hk => hk.2) (.int .i64 t1156)) (fun _ hk => hk.2) (.int .i64 t1157)) (fun _ hk => hk.2) (.slice Ao37 t1158.length co37)) (fun _ hk => hk.2) (.int .i64 t1161)) (fun _ h_ => h_.1))) hb); have n1_ := Aq.mk (Kd.R_below (by (with_reducible repeat (first | apply Kd.RqA | apply Kd.RqN | apply Kd.RqD)); exact (Kd.R_mono (Kd.R_far (p := ⟨gb1163, 3, none⟩) (Kd.R_far (p := ⟨gb1163, 2, none⟩) (Kd.R_far (p := ⟨gb1163, 1, none⟩) (Kd.R_far (p := ⟨gb1163, 0, none⟩) (Kd.R_types HO1145.out BK1163.out (by decide)) (fun _ hk => hk.2) (.int .i64 t1156)) (fun _ hk => hk.2) (.int .i64 t1157)) (fun _ hk => hk.2) (.slice Ao37 t1158.length co37)) (fun _ hk => hk.2) (.int .i64 t1161)) (fun _ h_ => h_.1))) hb); have n2_ := Aq.mk (Kd.R_below (by (with_reducible repeat (first | apply Kd.RqA | apply Kd.RqN | apply Kd.RqD)); exact (Kd.R_mono (Kd.R_far (p := ⟨gb1163, 3, none⟩) (Kd.R_far (p := ⟨gb1163, 2, none⟩) (Kd.R_far (p := ⟨gb1163, 1, none⟩) (Kd.R_far (p := ⟨gb1163, 0, none⟩) (Kd.R_types HO1153.out BK1163.out (by decide)) (fun _ hk => hk.2) (.int .i64 t1156)) (fun _ hk => hk.2) (.int .i64 t1157)) (fun _ hk => hk.2) (.slice Ao37 t1158.length co37)) (fun _ hk => hk.2) (.int .i64 t1161)) (fun _ h_ => h_.1))) hb); have n3_ := Aq.mk (Kd.R_below (by (with_reducible repeat (first | apply Kd.RqA | apply Kd.RqN | apply Kd.RqD)); exact (Kd.R_mono (Kd.R_far (p := ⟨gb1163, 3, none⟩) (Kd.R_far (p := ⟨gb1163, 2, none⟩) (Kd.R_far (p := ⟨gb1163, 1, none⟩) (Kd.R_far (p := ⟨gb1163, 0, none⟩) (Kd.R_types HO1160.out BK1163.out (by decide)) (fun _ hk => hk.2) (.int .i64 t1156)) (fun _ hk => hk.2) (.int .i64 t1157)) (fun _ hk => hk.2) (.slice Ao37 t1158.length co37)) (fun _ hk => hk.2) (.int .i64 t1161)) (fun _ h_ => h_.1))) hb); have n4_ := Aq.mk (kQB (g := gb1133) (o := .cells #[.int .i64 a0_0, .int .i64 a0_1, .slice A0_2 l0_2.length c0_2, .int .i64 a0_3] 45 (0, 0)) (by (with_reducible repeat (first | refine kQN ?_ _ | refine kQD ?_ | refine kQA ?_ _)); refine kQR ?_ NB1133_1163.out _; (with_reducible repeat (first | refine kQN ?_ _ | refine kQD ?_ | refine kQA ?_ _)); refine kQR ?_ NB1133_1163.out _; (with_reducible repeat (first | refine kQN ?_ _ | refine kQD ?_ | refine kQA ?_ _)); refine kQR ?_ NB1133_1163.out _; (with_reducible repeat (first | refine kQN ?_ _ | refine kQD ?_ | refine kQA ?_ _)); refine kQR ?_ NB1133_1163.out _; (with_reducible repeat (first | refine kQN ?_ _ | refine kQD ?_ | refine kQA ?_ _)); exact BK1133.out) hb); have n5_ := Aq.mk (kQB (g := gb1148) (o := .cells #[.int .i64 t1141, .int .i64 t1142, .slice Ao23 t1143.length co23, .int .i64 t1146] 49 (0, 0)) (by (with_reducible repeat (first | refine kQN ?_ _ | refine kQD ?_ | refine kQA ?_ _)); refine kQR ?_ NB1148_1163.out _; (with_reducible repeat (first | refine kQN ?_ _ | refine kQD ?_ | refine kQA ?_ _)); refine kQR ?_ NB1148_1163.out _; (with_reducible repeat (first | refine kQN ?_ _ | refine kQD ?_ | refine kQA ?_ _)); refine kQR ?_ NB1148_1163.out _; (with_reducible repeat (first | refine kQN ?_ _ | refine kQD ?_ | refine kQA ?_ _)); refine kQR ?_ NB1148_1163.out _; (with_reducible repeat (first | refine kQN ?_ _ | refine kQD ?_ | refine kQA ?_ _)); exact BK1148.out) hb); have n6_ := Aq.mk (kQB (g := gb1155) (o := .cells #[.int .i64 t1149, .int .i64 t1150, .slice Ao30 t1151.length co30, .int .i64 t1154] 49 (0, 0)) (by (with_reducible repeat (first | refine kQN ?_ _ | refine kQD ?_ | refine kQA ?_ _)); refine kQR ?_ NB1155_1163.out _; (with_reducible repeat (first | refine kQN ?_ _ | refine kQD ?_ | refine kQA ?_ _)); refine kQR ?_ NB1155_1163.out _; (with_reducible repeat (first | refine kQN ?_ _ | refine kQD ?_ | refine kQA ?_ _)); refine kQR ?_ NB1155_1163.out _; (with_reducible repeat (first | refine kQN ?_ _ | refine kQD ?_ | refine kQA ?_ _)); refine kQR ?_ NB1155_1163.out _; (with_reducible repeat (first | refine kQN ?_ _ | refine kQD ?_ | refine kQA ?_ _)); exact BK1155.out) hb); have n7_ := Aq.mk (kQB (g := gb1163) (o := .cells #[.int .i64 t1156, .int .i64 t1157, .slice Ao37 t1158.length co37, .int .i64 t1161] 49 (0, 0)) (by (with_reducible repeat (first | refine kQN ?_ _ | refine kQD ?_ | refine kQA ?_ _)); refine kQP (cs := #[.int .i64 t1156, .int .i64 t1157, .slice Ao37 t1158.length co37, .int .i64 0]) ?_ 3 _ rfl; (with_reducible repeat (first | refine kQN ?_ _ | refine kQD ?_ | refine kQA ?_ _)); refine kQP (cs := #[.int .i64 t1156, .int .i64 t1157, .slice none 0 0, .int .i64 0]) ?_ 2 _ rfl; (with_reducible repeat (first | refine kQN ?_ _ | refine kQD ?_ | refine kQA ?_ _)); refine kQP (cs := #[.int .i64 t1156, .int .i64 0, .slice none 0 0, .int .i64 0]) ?_ 1 _ rfl; (with_reducible repeat (first | refine kQN ?_ _ | refine kQD ?_ | refine kQA ?_ _)); refine kQP (cs := #[.int .i64 0, .int .i64 0, .slice none 0 0, .int .i64 0]) ?_ 0 _ rfl; (with_reducible repeat (first | refine kQN ?_ _ | refine kQD ?_ | refine kQA ?_ _)); exact BK1163.out) hb); have n8_ := Aq.mk (bQT (by repeat (first | (with_reducible first | exact HB.out | apply bQA | apply bQN | apply bQ1 | refine bQS ?_ GE1133.out | refine bQS ?_ GE1148.out | refine bQS ?_ GE1155.out | refine bQS ?_ GE1163.out) | exact HB.out)) hb); clear HO1139; clear HO1145; clear HO1153; clear HO1160; clear BK1133; clear BK1148; clear BK1155; clear BK1163; clear HB; have HO1139 := n0_; have HO1145 := n1_; have HO1153 := n2_; have HO1160 := n3_; have BK1133 := n4_; have BK1148 := n5_; have BK1155 := n6_; have BK1163 := n7_; have HB := n8_; clear n0_ n1_ n2_ n3_ n4_ n5_ n6_ n7_ n8_; (try clear hb); (try clear hb2); (try clear hk); (try clear hi)))
    go_meet
    case rel => exact ⟨_, ((t1162 != t1147)), (by first | rfl | (simp; done) | (simp [*]; done)), H', ⟨by first | omega | exact Nat.le_refl _⟩, ⟨by (with_reducible repeat (first | apply Kd.RqA | apply Kd.RqN | apply Kd.RqD)); exact Kd.R_mono HO1145.out (fun _ hk => ⟨hk.1.2, hk.2⟩)⟩, ⟨by (with_reducible repeat (first | apply Kd.RqA | apply Kd.RqN | apply Kd.RqD)); exact Kd.R_mono HO1153.out (fun _ hk => ⟨hk.1.2, hk.2⟩)⟩, ⟨by (with_reducible repeat (first | apply Kd.RqA | apply Kd.RqN | apply Kd.RqD)); exact Kd.R_mono HO1160.out (fun _ hk => ⟨hk.1.2, hk.2⟩)⟩, ⟨by (with_reducible repeat (first | refine kQN ?_ _ | refine kQD ?_ | refine kQA ?_ _)); exact BK1133.out⟩, ⟨by (with_reducible repeat (first | refine kQN ?_ _ | refine kQD ?_ | refine kQA ?_ _)); exact BK1148.out⟩, ⟨by (with_reducible repeat (first | refine kQN ?_ _ | refine kQD ?_ | refine kQA ?_ _)); exact BK1155.out⟩, ⟨by (with_reducible repeat (first | refine kQN ?_ _ | refine kQD ?_ | refine kQA ?_ _)); exact BK1163.out⟩, ⟨by repeat (first | (with_reducible first | exact HB.out | apply bQA | apply bQN | apply bQ1 | refine bQS ?_ GE1133.out | refine bQS ?_ GE1148.out | refine bQS ?_ GE1155.out | refine bQS ?_ GE1163.out) | exact HB.out)⟩⟩
   ·replace c39 := Bool.eq_false_iff.mpr c39
    subst c39
    have H1 : (laws_FnExactSquareGabidulin.j0 k a1 t1147 t1162 true a0_0 a0_1 l0_2 a0_3 t1141 t1142 t1143 t1146 t1149 t1150 t1151 t1154 t1156 t1157 t1158 t1161) = some r := by rw [if_neg (show ¬ (false = true) by decide)] at H; exact H
    clear H
    have H := H1
    clear H1
    have H' := Aq.mk H
    clear H
    have hnb48 := NB1163_1133.out
    have hnc48 := NB1133_1163.out
    have hnb49 := NB1163_1148.out
    have hnc49 := NB1148_1163.out
    have hnb50 := NB1163_1155.out
    have hnc50 := NB1155_1163.out
    have hcz51_0 : w32.cell? ⟨gb1163, 0, none⟩ = some (.int .i64 0) := (kQC BK1163.out 0).trans rfl
    have hcz51_1 : w32.cell? ⟨gb1163, 1, none⟩ = some (.int .i64 0) := (kQC BK1163.out 1).trans rfl
    have hcz51_2 : w32.cell? ⟨gb1163, 2, none⟩ = some (.slice none 0 0) := (kQC BK1163.out 2).trans rfl
    have hcz51_3 : w32.cell? ⟨gb1163, 3, none⟩ = some (.int .i64 0) := (kQC BK1163.out 3).trans rfl
    have hfz51_0 := kQF BK1163.out 0
    have hfz51_1 := kQF BK1163.out 1
    have hfz51_2 := kQF BK1163.out 2
    have hfz51_3 := kQF BK1163.out 3
    have hnb52 := NB1148_1133.out
    have hnc52 := NB1133_1148.out
    have hnb53 := NB1148_1155.out
    have hnc53 := NB1155_1148.out
    have hcz54_0 : w32.cell? ⟨gb1148, 0, none⟩ = some (.int .i64 t1141) := (kQC BK1148.out 0).trans rfl
    have hcz54_1 : w32.cell? ⟨gb1148, 1, none⟩ = some (.int .i64 t1142) := (kQC BK1148.out 1).trans rfl
    have hcz54_2 : w32.cell? ⟨gb1148, 2, none⟩ = some (.slice Ao23 t1143.length co23) := (kQC BK1148.out 2).trans rfl
    have hcz54_3 : w32.cell? ⟨gb1148, 3, none⟩ = some (.int .i64 t1146) := (kQC BK1148.out 3).trans rfl
    have hfz54_0 := kQF BK1148.out 0
    have hfz54_1 := kQF BK1148.out 1
    have hfz54_2 := kQF BK1148.out 2
    have hfz54_3 := kQF BK1148.out 3
    go_wp2_with (first | ((with_reducible refine gQc (f := 39) rfl ?_); refine goesL_ (some 38) rfl rfl Try.func39 (by kernel_rfl) rfl #[.agg #[.int .i64 t1156, .int .i64 t1157, .slice Ao37 t1158.length co37, .int .i64 t1161], .agg #[.int .i64 t1141, .int .i64 t1142, .slice Ao23 t1143.length co23, .int .i64 t1146]] rfl (by (try simp only [List.map_toArray, List.map_cons, List.map_nil]); first | done | rfl | (simp only [List.length_drop, List.length_take]; rfl)) ?_; (with_reducible refine (laws_eqGabidulin.calls k t1156 t1157 _ _ t1158 t1161 t1141 t1142 _ _ t1143 t1146 false _ ?side1 ?side2 ?side3 ?side4 A38.out).mono ?_); (case side1 => refine (Kd.R_reads' (e := 2) (base := w.heap.size) (ok := fun k_ => (((True ∧ some k_ ≠ (.slice Ao18 t1137.length co18 : Value).ownBlock) ∧ some k_ ≠ (.slice Ao23 t1143.length co23 : Value).ownBlock) ∧ some k_ ≠ (.slice Ao30 t1151.length co30 : Value).ownBlock)) (n := t1158.length) (c := co37) ?_).2.2; exact (by (with_reducible repeat (first | apply Kd.RqA | apply Kd.RqN | apply Kd.RqD)); exact (Kd.R_mono (Kd.R_far (p := ⟨gb1163, 3, none⟩) (Kd.R_far (p := ⟨gb1163, 2, none⟩) (Kd.R_far (p := ⟨gb1163, 1, none⟩) (Kd.R_far (p := ⟨gb1163, 0, none⟩) (Kd.R_types HO1160.out BK1163.out (by decide)) (fun _ hk => hk.2) (.int .i64 t1156)) (fun _ hk => hk.2) (.int .i64 t1157)) (fun _ hk => hk.2) (.slice Ao37 t1158.length co37)) (fun _ hk => hk.2) (.int .i64 t1161)) (fun _ h_ => h_.1)))); (case side2 => exact (Kd.R_reads' HO1160.out).2.1); (case side3 => refine (Kd.R_reads' (e := 2) (base := w.heap.size) (ok := fun k_ => (((True ∧ some k_ ≠ (.slice Ao18 t1137.length co18 : Value).ownBlock) ∧ some k_ ≠ (.slice Ao30 t1151.length co30 : Value).ownBlock) ∧ some k_ ≠ (.slice Ao37 t1158.length co37 : Value).ownBlock)) (n := t1143.length) (c := co23) ?_).2.2; exact (by (with_reducible repeat (first | apply Kd.RqA | apply Kd.RqN | apply Kd.RqD)); exact (Kd.R_mono (Kd.R_far (p := ⟨gb1163, 3, none⟩) (Kd.R_far (p := ⟨gb1163, 2, none⟩) (Kd.R_far (p := ⟨gb1163, 1, none⟩) (Kd.R_far (p := ⟨gb1163, 0, none⟩) (Kd.R_types HO1145.out BK1163.out (by decide)) (fun _ hk => hk.2) (.int .i64 t1156)) (fun _ hk => hk.2) (.int .i64 t1157)) (fun _ hk => hk.2) (.slice Ao37 t1158.length co37)) (fun _ hk => hk.2) (.int .i64 t1161)) (fun _ h_ => h_.1)))); (case side4 => exact (Kd.R_reads' HO1145.out).2.1); rintro e w55 ⟨rfl, hb⟩; refine ⟨_, rfl, ?_⟩; have n0_ := Aq.mk (Kd.R_below (by (with_reducible repeat (first | apply Kd.RqA | apply Kd.RqN | apply Kd.RqD)); exact (Kd.R_mono (Kd.R_far (p := ⟨gb1163, 3, none⟩) (Kd.R_far (p := ⟨gb1163, 2, none⟩) (Kd.R_far (p := ⟨gb1163, 1, none⟩) (Kd.R_far (p := ⟨gb1163, 0, none⟩) (Kd.R_types HO1139.out BK1163.out (by decide)) (fun _ hk => hk.2) (.int .i64 t1156)) (fun _ hk => hk.2) (.int .i64 t1157)) (fun _ hk => hk.2) (.slice Ao37 t1158.length co37)) (fun _ hk => hk.2) (.int .i64 t1161)) (fun _ h_ => h_.1))) hb); have n1_ := Aq.mk (Kd.R_below (by (with_reducible repeat (first | apply Kd.RqA | apply Kd.RqN | apply Kd.RqD)); exact (Kd.R_mono (Kd.R_far (p := ⟨gb1163, 3, none⟩) (Kd.R_far (p := ⟨gb1163, 2, none⟩) (Kd.R_far (p := ⟨gb1163, 1, none⟩) (Kd.R_far (p := ⟨gb1163, 0, none⟩) (Kd.R_types HO1145.out BK1163.out (by decide)) (fun _ hk => hk.2) (.int .i64 t1156)) (fun _ hk => hk.2) (.int .i64 t1157)) (fun _ hk => hk.2) (.slice Ao37 t1158.length co37)) (fun _ hk => hk.2) (.int .i64 t1161)) (fun _ h_ => h_.1))) hb); have n2_ := Aq.mk (Kd.R_below (by (with_reducible repeat (first | apply Kd.RqA | apply Kd.RqN | apply Kd.RqD)); exact (Kd.R_mono (Kd.R_far (p := ⟨gb1163, 3, none⟩) (Kd.R_far (p := ⟨gb1163, 2, none⟩) (Kd.R_far (p := ⟨gb1163, 1, none⟩) (Kd.R_far (p := ⟨gb1163, 0, none⟩) (Kd.R_types HO1153.out BK1163.out (by decide)) (fun _ hk => hk.2) (.int .i64 t1156)) (fun _ hk => hk.2) (.int .i64 t1157)) (fun _ hk => hk.2) (.slice Ao37 t1158.length co37)) (fun _ hk => hk.2) (.int .i64 t1161)) (fun _ h_ => h_.1))) hb); have n3_ := Aq.mk (Kd.R_below (by (with_reducible repeat (first | apply Kd.RqA | apply Kd.RqN | apply Kd.RqD)); exact (Kd.R_mono (Kd.R_far (p := ⟨gb1163, 3, none⟩) (Kd.R_far (p := ⟨gb1163, 2, none⟩) (Kd.R_far (p := ⟨gb1163, 1, none⟩) (Kd.R_far (p := ⟨gb1163, 0, none⟩) (Kd.R_types HO1160.out BK1163.out (by decide)) (fun _ hk => hk.2) (.int .i64 t1156)) (fun _ hk => hk.2) (.int .i64 t1157)) (fun _ hk => hk.2) (.slice Ao37 t1158.length co37)) (fun _ hk => hk.2) (.int .i64 t1161)) (fun _ h_ => h_.1))) hb); have n4_ := Aq.mk (kQB (g := gb1133) (o := .cells #[.int .i64 a0_0, .int .i64 a0_1, .slice A0_2 l0_2.length c0_2, .int .i64 a0_3] 45 (0, 0)) (by (with_reducible repeat (first | refine kQN ?_ _ | refine kQD ?_ | refine kQA ?_ _)); refine kQR ?_ NB1133_1163.out _; (with_reducible repeat (first | refine kQN ?_ _ | refine kQD ?_ | refine kQA ?_ _)); refine kQR ?_ NB1133_1163.out _; (with_reducible repeat (first | refine kQN ?_ _ | refine kQD ?_ | refine kQA ?_ _)); refine kQR ?_ NB1133_1163.out _; (with_reducible repeat (first | refine kQN ?_ _ | refine kQD ?_ | refine kQA ?_ _)); refine kQR ?_ NB1133_1163.out _; (with_reducible repeat (first | refine kQN ?_ _ | refine kQD ?_ | refine kQA ?_ _)); exact BK1133.out) hb); have n5_ := Aq.mk (kQB (g := gb1148) (o := .cells #[.int .i64 t1141, .int .i64 t1142, .slice Ao23 t1143.length co23, .int .i64 t1146] 49 (0, 0)) (by (with_reducible repeat (first | refine kQN ?_ _ | refine kQD ?_ | refine kQA ?_ _)); refine kQR ?_ NB1148_1163.out _; (with_reducible repeat (first | refine kQN ?_ _ | refine kQD ?_ | refine kQA ?_ _)); refine kQR ?_ NB1148_1163.out _; (with_reducible repeat (first | refine kQN ?_ _ | refine kQD ?_ | refine kQA ?_ _)); refine kQR ?_ NB1148_1163.out _; (with_reducible repeat (first | refine kQN ?_ _ | refine kQD ?_ | refine kQA ?_ _)); refine kQR ?_ NB1148_1163.out _; (with_reducible repeat (first | refine kQN ?_ _ | refine kQD ?_ | refine kQA ?_ _)); exact BK1148.out) hb); have n6_ := Aq.mk (kQB (g := gb1155) (o := .cells #[.int .i64 t1149, .int .i64 t1150, .slice Ao30 t1151.length co30, .int .i64 t1154] 49 (0, 0)) (by (with_reducible repeat (first | refine kQN ?_ _ | refine kQD ?_ | refine kQA ?_ _)); refine kQR ?_ NB1155_1163.out _; (with_reducible repeat (first | refine kQN ?_ _ | refine kQD ?_ | refine kQA ?_ _)); refine kQR ?_ NB1155_1163.out _; (with_reducible repeat (first | refine kQN ?_ _ | refine kQD ?_ | refine kQA ?_ _)); refine kQR ?_ NB1155_1163.out _; (with_reducible repeat (first | refine kQN ?_ _ | refine kQD ?_ | refine kQA ?_ _)); refine kQR ?_ NB1155_1163.out _; (with_reducible repeat (first | refine kQN ?_ _ | refine kQD ?_ | refine kQA ?_ _)); exact BK1155.out) hb); have n7_ := Aq.mk (kQB (g := gb1163) (o := .cells #[.int .i64 t1156, .int .i64 t1157, .slice Ao37 t1158.length co37, .int .i64 t1161] 49 (0, 0)) (by (with_reducible repeat (first | refine kQN ?_ _ | refine kQD ?_ | refine kQA ?_ _)); refine kQP (cs := #[.int .i64 t1156, .int .i64 t1157, .slice Ao37 t1158.length co37, .int .i64 0]) ?_ 3 _ rfl; (with_reducible repeat (first | refine kQN ?_ _ | refine kQD ?_ | refine kQA ?_ _)); refine kQP (cs := #[.int .i64 t1156, .int .i64 t1157, .slice none 0 0, .int .i64 0]) ?_ 2 _ rfl; (with_reducible repeat (first | refine kQN ?_ _ | refine kQD ?_ | refine kQA ?_ _)); refine kQP (cs := #[.int .i64 t1156, .int .i64 0, .slice none 0 0, .int .i64 0]) ?_ 1 _ rfl; (with_reducible repeat (first | refine kQN ?_ _ | refine kQD ?_ | refine kQA ?_ _)); refine kQP (cs := #[.int .i64 0, .int .i64 0, .slice none 0 0, .int .i64 0]) ?_ 0 _ rfl; (with_reducible repeat (first | refine kQN ?_ _ | refine kQD ?_ | refine kQA ?_ _)); exact BK1163.out) hb); have n8_ := Aq.mk (bQT (by repeat (first | (with_reducible first | exact HB.out | apply bQA | apply bQN | apply bQ1 | refine bQS ?_ GE1133.out | refine bQS ?_ GE1148.out | refine bQS ?_ GE1155.out | refine bQS ?_ GE1163.out) | exact HB.out)) hb); clear HO1139; clear HO1145; clear HO1153; clear HO1160; clear BK1133; clear BK1148; clear BK1155; clear BK1163; clear HB; have HO1139 := n0_; have HO1145 := n1_; have HO1153 := n2_; have HO1160 := n3_; have BK1133 := n4_; have BK1148 := n5_; have BK1155 := n6_; have BK1163 := n7_; have HB := n8_; clear n0_ n1_ n2_ n3_ n4_ n5_ n6_ n7_ n8_; (try clear hb); (try clear hb2); (try clear hk); (try clear hi)))
    go_meet
    case rel => exact ⟨_, (true), (by first | rfl | (simp; done) | (simp [*]; done)), H', ⟨by first | omega | exact Nat.le_refl _⟩, ⟨by (with_reducible repeat (first | apply Kd.RqA | apply Kd.RqN | apply Kd.RqD)); exact Kd.R_mono HO1145.out (fun _ hk => ⟨hk.1.2, hk.2⟩)⟩, ⟨by (with_reducible repeat (first | apply Kd.RqA | apply Kd.RqN | apply Kd.RqD)); exact Kd.R_mono HO1153.out (fun _ hk => ⟨hk.1.2, hk.2⟩)⟩, ⟨by (with_reducible repeat (first | apply Kd.RqA | apply Kd.RqN | apply Kd.RqD)); exact Kd.R_mono HO1160.out (fun _ hk => ⟨hk.1.2, hk.2⟩)⟩, ⟨by (with_reducible repeat (first | refine kQN ?_ _ | refine kQD ?_ | refine kQA ?_ _)); exact BK1133.out⟩, ⟨by (with_reducible repeat (first | refine kQN ?_ _ | refine kQD ?_ | refine kQA ?_ _)); exact BK1148.out⟩, ⟨by (with_reducible repeat (first | refine kQN ?_ _ | refine kQD ?_ | refine kQA ?_ _)); exact BK1155.out⟩, ⟨by (with_reducible repeat (first | refine kQN ?_ _ | refine kQD ?_ | refine kQA ?_ _)); exact BK1163.out⟩, ⟨by repeat (first | (with_reducible first | exact HB.out | apply bQA | apply bQN | apply bQ1 | refine bQS ?_ GE1133.out | refine bQS ?_ GE1148.out | refine bQS ?_ GE1155.out | refine bQS ?_ GE1163.out) | exact HB.out)⟩⟩
  case rest =>
   clear HC12
   try clear c1
   try clear c2
   try clear p2
   try clear c3
   try clear c4
   try clear c4b0
   try clear c5
   try clear c6
   try clear c15
   try clear c21
   try clear c27
   try clear c28
   try clear c33
   try clear c34
   try clear c35
   try clear c37
   try clear c39
   try clear c40
   try clear c41
   try clear c42
   try clear c44
   try clear c45
   try clear c48
   try clear c49
   try clear c50
   try clear c52
   try clear c53
   try clear hcz14_0
   try clear hcz14_1
   try clear hcz14_2
   try clear hcz14_3
   try clear hcz16_0
   try clear hcz16_1
   try clear hcz16_2
   try clear hcz16_3
   try clear hcz22_0
   try clear hcz22_1
   try clear hcz22_2
   try clear hcz22_3
   try clear hcz24_0
   try clear hcz24_1
   try clear hcz24_2
   try clear hcz24_3
   try clear hcz29_0
   try clear hcz29_1
   try clear hcz29_2
   try clear hcz29_3
   try clear hcz36_0
   try clear hcz36_1
   try clear hcz36_2
   try clear hcz36_3
   try clear hcz43_0
   try clear hcz43_1
   try clear hcz43_2
   try clear hcz43_3
   try clear hcz46_0
   try clear hcz46_1
   try clear hcz46_2
   try clear hcz46_3
   try clear hcz51_0
   try clear hcz51_1
   try clear hcz51_2
   try clear hcz51_3
   try clear hcz54_0
   try clear hcz54_1
   try clear hcz54_2
   try clear hcz54_3
   try clear hcz6_0
   try clear hcz6_1
   try clear hcz6_2
   try clear hcz6_3
   try clear hfz14_0
   try clear hfz14_1
   try clear hfz14_2
   try clear hfz14_3
   try clear hfz16_0
   try clear hfz16_1
   try clear hfz16_2
   try clear hfz16_3
   try clear hfz22_0
   try clear hfz22_1
   try clear hfz22_2
   try clear hfz22_3
   try clear hfz24_0
   try clear hfz24_1
   try clear hfz24_2
   try clear hfz24_3
   try clear hfz29_0
   try clear hfz29_1
   try clear hfz29_2
   try clear hfz29_3
   try clear hfz36_0
   try clear hfz36_1
   try clear hfz36_2
   try clear hfz36_3
   try clear hfz43_0
   try clear hfz43_1
   try clear hfz43_2
   try clear hfz43_3
   try clear hfz46_0
   try clear hfz46_1
   try clear hfz46_2
   try clear hfz46_3
   try clear hfz51_0
   try clear hfz51_1
   try clear hfz51_2
   try clear hfz51_3
   try clear hfz54_0
   try clear hfz54_1
   try clear hfz54_2
   try clear hfz54_3
   try clear hfz6_0
   try clear hfz6_1
   try clear hfz6_2
   try clear hfz6_3
   obtain ⟨kq, x44_11, rfl, HA, HJ11, HO_1149002, HO_1156002, HO_1164002, BK1133, BK1148, BK1155, BK1163, HB⟩ := hcut
   cases kq with
   | zero => exact absurd HA.out (by simp [laws_FnExactSquareGabidulin.j0])
   | succ kj11 =>
    have H := HA.out
    clear HA
    simp only [laws_FnExactSquareGabidulin.j0] at H
    by_cases c56 : x44_11 = true
    ·subst c56
     have H1 : (some false) = some r := by rw [if_pos rfl] at H; exact H
     clear H
     have H := H1
     clear H1
     obtain rfl := Option.some.inj H
     go_wp2
     go_ret
     exact ⟨by first | rfl | (simp [errW_none, errW_some] <;> rfl) | (simp [*, errW_none, errW_some] <;> rfl), by repeat (first | (with_reducible first | exact HB.out | apply bQA | apply bQN | apply bQ1 | refine bQS ?_ GE1133.out | refine bQS ?_ GE1148.out | refine bQS ?_ GE1155.out | refine bQS ?_ GE1163.out) | exact HB.out)⟩
    ·replace c56 := Bool.eq_false_iff.mpr c56
     subst c56
     have H1 : ((laws_toGabidulin.f kj11 a0_0 a0_1 l0_2 a0_3).bind fun bt1165 => ((laws_eqGabidulin.f kj11 t1149 t1150 t1151 t1154 bt1165.1 bt1165.2.1 bt1165.2.2.1 bt1165.2.2.2).bind fun t1171 => (if t1171 = true then ((laws_markGabidulin.f kj11 t1149 t1150 t1151 t1154 1).bind fun bt1172 => (if bt1172.1 < 0 then (laws_FnExactSquareGabidulin.j1 kj11 a1 t1147 true a0_0 a0_1 l0_2 a0_3 t1141 t1142 t1143 t1146 t1156 t1157 t1158 t1161) else ((laws_eqGabidulin.f kj11 t1156 t1157 t1158 t1161 t1141 t1142 t1143 t1146).bind fun t1174 => (if t1174 = true then (laws_FnExactSquareGabidulin.j1 kj11 a1 t1147 (t1162 != t1147) a0_0 a0_1 l0_2 a0_3 t1141 t1142 t1143 t1146 t1156 t1157 t1158 t1161) else (laws_FnExactSquareGabidulin.j1 kj11 a1 t1147 true a0_0 a0_1 l0_2 a0_3 t1141 t1142 t1143 t1146 t1156 t1157 t1158 t1161))))) else (some false)))) = some r := by rw [if_neg (show ¬ (false = true) by decide)] at H; exact H
     clear H
     have H := H1
     clear H1
     replace H := Option.bind_eq_some_iff.mp H
     obtain ⟨⟨t1165, t1166, t1167, t1170⟩, A570, H⟩ := H
     replace H : ((laws_eqGabidulin.f kj11 t1149 t1150 t1151 t1154 t1165 t1166 t1167 t1170).bind fun t1171 => (if t1171 = true then ((laws_markGabidulin.f kj11 t1149 t1150 t1151 t1154 1).bind fun bt1172 => (if bt1172.1 < 0 then (laws_FnExactSquareGabidulin.j1 kj11 a1 t1147 true a0_0 a0_1 l0_2 a0_3 t1141 t1142 t1143 t1146 t1156 t1157 t1158 t1161) else ((laws_eqGabidulin.f kj11 t1156 t1157 t1158 t1161 t1141 t1142 t1143 t1146).bind fun t1174 => (if t1174 = true then (laws_FnExactSquareGabidulin.j1 kj11 a1 t1147 (t1162 != t1147) a0_0 a0_1 l0_2 a0_3 t1141 t1142 t1143 t1146 t1156 t1157 t1158 t1161) else (laws_FnExactSquareGabidulin.j1 kj11 a1 t1147 true a0_0 a0_1 l0_2 a0_3 t1141 t1142 t1143 t1146 t1156 t1157 t1158 t1161))))) else (some false))) = some r := H
     have A57 := Aq.mk A570
     clear A570
     replace H := Option.bind_eq_some_iff.mp H
     obtain ⟨t1171, A580, H⟩ := H
     replace H : (if t1171 = true then ((laws_markGabidulin.f kj11 t1149 t1150 t1151 t1154 1).bind fun bt1172 => (if bt1172.1 < 0 then (laws_FnExactSquareGabidulin.j1 kj11 a1 t1147 true a0_0 a0_1 l0_2 a0_3 t1141 t1142 t1143 t1146 t1156 t1157 t1158 t1161) else ((laws_eqGabidulin.f kj11 t1156 t1157 t1158 t1161 t1141 t1142 t1143 t1146).bind fun t1174 => (if t1174 = true then (laws_FnExactSquareGabidulin.j1 kj11 a1 t1147 (t1162 != t1147) a0_0 a0_1 l0_2 a0_3 t1141 t1142 t1143 t1146 t1156 t1157 t1158 t1161) else (laws_FnExactSquareGabidulin.j1 kj11 a1 t1147 true a0_0 a0_1 l0_2 a0_3 t1141 t1142 t1143 t1146 t1156 t1157 t1158 t1161))))) else (some false)) = some r := H
     have A58 := Aq.mk A580
     clear A580
     by_cases c59 : t1171 = true
     ·subst c59
      have H1 : ((laws_markGabidulin.f kj11 t1149 t1150 t1151 t1154 1).bind fun bt1172 => (if bt1172.1 < 0 then (laws_FnExactSquareGabidulin.j1 kj11 a1 t1147 true a0_0 a0_1 l0_2 a0_3 t1141 t1142 t1143 t1146 t1156 t1157 t1158 t1161) else ((laws_eqGabidulin.f kj11 t1156 t1157 t1158 t1161 t1141 t1142 t1143 t1146).bind fun t1174 => (if t1174 = true then (laws_FnExactSquareGabidulin.j1 kj11 a1 t1147 (t1162 != t1147) a0_0 a0_1 l0_2 a0_3 t1141 t1142 t1143 t1146 t1156 t1157 t1158 t1161) else (laws_FnExactSquareGabidulin.j1 kj11 a1 t1147 true a0_0 a0_1 l0_2 a0_3 t1141 t1142 t1143 t1146 t1156 t1157 t1158 t1161))))) = some r := by rw [if_pos rfl] at H; exact H
      clear H
      have H := H1
      clear H1
      replace H := Option.bind_eq_some_iff.mp H
      obtain ⟨⟨t1172, t1173⟩, A600, H⟩ := H
      replace H : (if t1172 < 0 then (laws_FnExactSquareGabidulin.j1 kj11 a1 t1147 true a0_0 a0_1 l0_2 a0_3 t1141 t1142 t1143 t1146 t1156 t1157 t1158 t1161) else ((laws_eqGabidulin.f kj11 t1156 t1157 t1158 t1161 t1141 t1142 t1143 t1146).bind fun t1174 => (if t1174 = true then (laws_FnExactSquareGabidulin.j1 kj11 a1 t1147 (t1162 != t1147) a0_0 a0_1 l0_2 a0_3 t1141 t1142 t1143 t1146 t1156 t1157 t1158 t1161) else (laws_FnExactSquareGabidulin.j1 kj11 a1 t1147 true a0_0 a0_1 l0_2 a0_3 t1141 t1142 t1143 t1146 t1156 t1157 t1158 t1161)))) = some r := H
      have A60 := Aq.mk A600
      clear A600
      have HC61 := Aq.mk H
      clear H
      try go_wp2
      have n0_ := Aq.mk (Kd.RqD HO_1149002.out)
      have n1_ := Aq.mk (Kd.RqD HO_1156002.out)
      have n2_ := Aq.mk (Kd.RqD HO_1164002.out)
      have n3_ := Aq.mk (kQD BK1133.out)
      have n4_ := Aq.mk (kQD BK1148.out)
      have n5_ := Aq.mk (kQD BK1155.out)
      have n6_ := Aq.mk (kQD BK1163.out)
      have n7_ := Aq.mk (bQ1 HB.out)
      clear HO_1149002
      clear HO_1156002
      clear HO_1164002
      clear BK1133
      clear BK1148
      clear BK1155
      clear BK1163
      clear HB
      have HO_1149002 := n0_
      have HO_1156002 := n1_
      have HO_1164002 := n2_
      have BK1133 := n3_
      have BK1148 := n4_
      have BK1155 := n5_
      have BK1163 := n6_
      have HB := n7_
      clear n0_ n1_ n2_ n3_ n4_ n5_ n6_ n7_
      refine start_ (n := 5) (S := fun w' => w'.cell? ⟨gb1155, 0, none⟩ = some (.int .i64 t1149) ∧ w'.cell? ⟨gb1155, 1, none⟩ = some (.int .i64 t1150) ∧ w'.cell? ⟨gb1155, 2, none⟩ = some (.slice Ao30 t1151.length co30) ∧ w'.cell? ⟨gb1155, 3, none⟩ = some (.int .i64 t1154) ∧ w'.cell? ⟨gb1133, 0, none⟩ = some (.int .i64 a0_0) ∧ w'.cell? ⟨gb1133, 1, none⟩ = some (.int .i64 a0_1) ∧ w'.cell? ⟨gb1133, 2, none⟩ = some (.slice A0_2 l0_2.length c0_2) ∧ w'.cell? ⟨gb1133, 3, none⟩ = some (.int .i64 a0_3)) (ds := []) #[false, false, false, false, false] (by kernel_rfl) rfl rfl ⟨(kQC BK1155.out 0).trans rfl, (kQC BK1155.out 1).trans rfl, (kQC BK1155.out 2).trans rfl, (kQC BK1155.out 3).trans rfl, (kQC BK1133.out 0).trans rfl, (kQC BK1133.out 1).trans rfl, (kQC BK1133.out 2).trans rfl, (kQC BK1133.out 3).trans rfl⟩ (fun hHeld => ?_)
      generalize wc.drew = w62 at HO_1149002 HO_1156002 HO_1164002 BK1133 BK1148 BK1155 BK1163 HB hHeld ⊢
      refine take_ (i := 0) (N := some 45) (v := ?_) (a' := ?_) #[true, false, false, false, false] rfl rfl (by kernel_rfl) (fun _ _ _ h => h) (Or.inl ⟨by rfl, ?_⟩) hHeld ?_ ?_
      rotate_left
      ·rintro w' ⟨s0, s1, s2, s3, s4, s5, s6, s7⟩
       go_simp
       with_reducible rfl
      rotate_left
      ·simp only [Act.put, qSa, qSb, qSc, i64_w, i32_w]
       rfl
      refine take_ (i := 1) (N := some 46) (v := ?_) (a' := ?_) #[true, true, false, false, false] rfl rfl (by kernel_rfl) (fun _ _ _ h => h) (Or.inl ⟨by rfl, ?_⟩) hHeld ?_ ?_
      rotate_left
      ·rintro w' ⟨s0, s1, s2, s3, s4, s5, s6, s7⟩
       go_simp
       with_reducible rfl
      rotate_left
      ·simp only [Act.put, qSa, qSb, qSc, i64_w, i32_w]
       rfl
      refine one_ (i := 2) (N := some 47) #[true, true, true, false, false] rfl rfl (by kernel_rfl) (by decide) (fun K hK => ?_)
      refine goes_ Try.func37 (by kernel_rfl) rfl #[.agg #[.int .i64 a0_0, .int .i64 a0_1, .slice A0_2 l0_2.length c0_2, .int .i64 a0_3]] (by rfl) rfl rfl (by (try simp only [List.map_toArray, List.map_cons, List.map_nil]); first | done | rfl | (simp only [List.length_drop, List.length_take]; rfl)) ?_
      with_reducible refine (laws_toGabidulin.calls kj11 a0_0 a0_1 _ _ l0_2 a0_3 t1165 t1166 t1167 t1170 _ ?side1 ?side2 A57.out).mono ?_
      (case side1 => repeat (first | exact (Kd.C_below HR0_2.out HB.out) | (with_reducible refine Kd.CqA ?_ _) | (with_reducible refine Kd.CqN ?_ _) | (with_reducible refine Kd.CqD ?_)))
      (case side2 => exact HC0_2.out)
      rintro e w63 ⟨v1168, rfl, ho0, hb⟩
      refine ⟨_, rfl, ?_⟩
      have n0_ := Aq.mk (Kd.R_elder' (by (with_reducible repeat (first | apply Kd.RqA | apply Kd.RqN | apply Kd.RqD)); exact HO_1149002.out) (Kd.R_base ho0) hb)
      have n1_ := Aq.mk (Kd.R_elder' (by (with_reducible repeat (first | apply Kd.RqA | apply Kd.RqN | apply Kd.RqD)); exact HO_1156002.out) (Kd.R_base ho0) hb)
      have n2_ := Aq.mk (Kd.R_elder' (by (with_reducible repeat (first | apply Kd.RqA | apply Kd.RqN | apply Kd.RqD)); exact HO_1164002.out) (Kd.R_base ho0) hb)
      have n3_ := Aq.mk (Kd.R_lower (Kd.R_new' (Kd.R_new' (Kd.R_new' ho0 (Kd.R_lt (by (with_reducible repeat (first | apply Kd.RqA | apply Kd.RqN | apply Kd.RqD)); exact HO_1149002.out))) (Kd.R_lt (by (with_reducible repeat (first | apply Kd.RqA | apply Kd.RqN | apply Kd.RqD)); exact HO_1156002.out))) (Kd.R_lt (by (with_reducible repeat (first | apply Kd.RqA | apply Kd.RqN | apply Kd.RqD)); exact HO_1164002.out))) (bQZ (by repeat (first | (with_reducible first | exact HB.out | apply bQA | apply bQN | apply bQ1 | refine bQS ?_ GE1133.out | refine bQS ?_ GE1148.out | refine bQS ?_ GE1155.out | refine bQS ?_ GE1163.out) | exact HB.out))))
      have n4_ := Aq.mk (kQB (g := gb1133) (o := .cells #[.int .i64 a0_0, .int .i64 a0_1, .slice A0_2 l0_2.length c0_2, .int .i64 a0_3] 45 (0, 0)) (by (with_reducible repeat (first | refine kQN ?_ _ | refine kQD ?_ | refine kQA ?_ _)); exact BK1133.out) hb)
      have n5_ := Aq.mk (kQB (g := gb1148) (o := .cells #[.int .i64 t1141, .int .i64 t1142, .slice Ao23 t1143.length co23, .int .i64 t1146] 49 (0, 0)) (by (with_reducible repeat (first | refine kQN ?_ _ | refine kQD ?_ | refine kQA ?_ _)); exact BK1148.out) hb)
      have n6_ := Aq.mk (kQB (g := gb1155) (o := .cells #[.int .i64 t1149, .int .i64 t1150, .slice Ao30 t1151.length co30, .int .i64 t1154] 49 (0, 0)) (by (with_reducible repeat (first | refine kQN ?_ _ | refine kQD ?_ | refine kQA ?_ _)); exact BK1155.out) hb)
      have n7_ := Aq.mk (kQB (g := gb1163) (o := .cells #[.int .i64 t1156, .int .i64 t1157, .slice Ao37 t1158.length co37, .int .i64 t1161] 49 (0, 0)) (by (with_reducible repeat (first | refine kQN ?_ _ | refine kQD ?_ | refine kQA ?_ _)); exact BK1163.out) hb)
      have n8_ := Aq.mk (bQT (by repeat (first | (with_reducible first | exact HB.out | apply bQA | apply bQN | apply bQ1 | refine bQS ?_ GE1133.out | refine bQS ?_ GE1148.out | refine bQS ?_ GE1155.out | refine bQS ?_ GE1163.out) | exact HB.out)) hb)
      clear HO_1149002
      clear HO_1156002
      clear HO_1164002
      clear BK1133
      clear BK1148
      clear BK1155
      clear BK1163
      clear HB
      have HO_1149002 := n0_
      have HO_1156002 := n1_
      have HO_1164002 := n2_
      have HO1169 := n3_
      have BK1133 := n4_
      have BK1148 := n5_
      have BK1155 := n6_
      have BK1163 := n7_
      have HB := n8_
      clear n0_ n1_ n2_ n3_ n4_ n5_ n6_ n7_ n8_
      (try clear hb)
      (try clear hb2)
      (try clear hk)
      (try clear hi)
      (try clear ho0)
      obtain ⟨Ao64, co64, eo64⟩ := Kd.R_slice HO1169.out
      (first | subst eo64 | (injection eo64 with f1_ f2_ f3_; have f4_ := f1_.symm; have f5_ := f3_.symm; clear f1_ f2_ f3_; subst f4_; subst f5_))
      refine hK.out _ _ ⟨(kQC BK1155.out 0).trans rfl, (kQC BK1155.out 1).trans rfl, (kQC BK1155.out 2).trans rfl, (kQC BK1155.out 3).trans rfl, (kQC BK1133.out 0).trans rfl, (kQC BK1133.out 1).trans rfl, (kQC BK1133.out 2).trans rfl, (kQC BK1133.out 3).trans rfl⟩ (fun hHeld => ?_)
      clear hK K
      refine norm_ (a' := ?_) ?_ ?_
      rotate_left
      ·show Act.put _ (some 47) _ = _
       simp only [Act.put, qSa, qSb, qSc, i64_w, i32_w]
       rfl
      refine one_ (i := 3) (N := some 48) #[true, true, true, true, false] rfl rfl (by kernel_rfl) (by decide) (fun K hK => ?_)
      refine goes_ Try.func39 (by kernel_rfl) rfl #[.agg #[.int .i64 t1149, .int .i64 t1150, .slice Ao30 t1151.length co30, .int .i64 t1154], .agg #[.int .i64 t1165, .int .i64 t1166, .slice Ao64 t1167.length co64, .int .i64 t1170]] (by rfl) rfl rfl (by (try simp only [List.map_toArray, List.map_cons, List.map_nil]); first | done | rfl | (simp only [List.length_drop, List.length_take]; rfl)) ?_
      with_reducible refine (laws_eqGabidulin.calls kj11 t1149 t1150 _ _ t1151 t1154 t1165 t1166 _ _ t1167 t1170 true _ ?side1 ?side2 ?side3 ?side4 A58.out).mono ?_
      (case side1 => repeat (first | exact (Kd.R_reads' HO_1156002.out).2.2 | (with_reducible refine Kd.CqA ?_ _) | (with_reducible refine Kd.CqN ?_ _) | (with_reducible refine Kd.CqD ?_)))
      (case side2 => exact (Kd.R_reads' HO_1156002.out).2.1)
      (case side3 => repeat (first | exact (Kd.R_reads' HO1169.out).2.2 | (with_reducible refine Kd.CqA ?_ _) | (with_reducible refine Kd.CqN ?_ _) | (with_reducible refine Kd.CqD ?_)))
      (case side4 => exact (Kd.R_reads' HO1169.out).2.1)
      rintro e w65 ⟨rfl, hb⟩
      refine ⟨_, rfl, ?_⟩
      have n0_ := Aq.mk (Kd.R_below (by (with_reducible repeat (first | apply Kd.RqA | apply Kd.RqN | apply Kd.RqD)); exact HO_1149002.out) hb)
      have n1_ := Aq.mk (Kd.R_below (by (with_reducible repeat (first | apply Kd.RqA | apply Kd.RqN | apply Kd.RqD)); exact HO_1156002.out) hb)
      have n2_ := Aq.mk (Kd.R_below (by (with_reducible repeat (first | apply Kd.RqA | apply Kd.RqN | apply Kd.RqD)); exact HO_1164002.out) hb)
      have n3_ := Aq.mk (Kd.R_below (by (with_reducible repeat (first | apply Kd.RqA | apply Kd.RqN | apply Kd.RqD)); exact HO1169.out) hb)
      have n4_ := Aq.mk (kQB (g := gb1133) (o := .cells #[.int .i64 a0_0, .int .i64 a0_1, .slice A0_2 l0_2.length c0_2, .int .i64 a0_3] 45 (0, 0)) (by (with_reducible repeat (first | refine kQN ?_ _ | refine kQD ?_ | refine kQA ?_ _)); exact BK1133.out) hb)
      have n5_ := Aq.mk (kQB (g := gb1148) (o := .cells #[.int .i64 t1141, .int .i64 t1142, .slice Ao23 t1143.length co23, .int .i64 t1146] 49 (0, 0)) (by (with_reducible repeat (first | refine kQN ?_ _ | refine kQD ?_ | refine kQA ?_ _)); exact BK1148.out) hb)
      have n6_ := Aq.mk (kQB (g := gb1155) (o := .cells #[.int .i64 t1149, .int .i64 t1150, .slice Ao30 t1151.length co30, .int .i64 t1154] 49 (0, 0)) (by (with_reducible repeat (first | refine kQN ?_ _ | refine kQD ?_ | refine kQA ?_ _)); exact BK1155.out) hb)
      have n7_ := Aq.mk (kQB (g := gb1163) (o := .cells #[.int .i64 t1156, .int .i64 t1157, .slice Ao37 t1158.length co37, .int .i64 t1161] 49 (0, 0)) (by (with_reducible repeat (first | refine kQN ?_ _ | refine kQD ?_ | refine kQA ?_ _)); exact BK1163.out) hb)
      have n8_ := Aq.mk (bQT (by repeat (first | (with_reducible first | exact HB.out | apply bQA | apply bQN | apply bQ1 | refine bQS ?_ GE1133.out | refine bQS ?_ GE1148.out | refine bQS ?_ GE1155.out | refine bQS ?_ GE1163.out) | exact HB.out)) hb)
      clear HO_1149002
      clear HO_1156002
      clear HO_1164002
      clear HO1169
      clear BK1133
      clear BK1148
      clear BK1155
      clear BK1163
      clear HB
      have HO_1149002 := n0_
      have HO_1156002 := n1_
      have HO_1164002 := n2_
      have HO1169 := n3_
      have BK1133 := n4_
      have BK1148 := n5_
      have BK1155 := n6_
      have BK1163 := n7_
      have HB := n8_
      clear n0_ n1_ n2_ n3_ n4_ n5_ n6_ n7_ n8_
      (try clear hb)
      (try clear hb2)
      (try clear hk)
      (try clear hi)
      refine hK.out _ _ ⟨(kQC BK1155.out 0).trans rfl, (kQC BK1155.out 1).trans rfl, (kQC BK1155.out 2).trans rfl, (kQC BK1155.out 3).trans rfl, (kQC BK1133.out 0).trans rfl, (kQC BK1133.out 1).trans rfl, (kQC BK1133.out 2).trans rfl, (kQC BK1133.out 3).trans rfl⟩ (fun hHeld => ?_)
      clear hK K
      refine norm_ (a' := ?_) ?_ ?_
      rotate_left
      ·show Act.put _ (some 48) _ = _
       simp only [Act.put, qSa, qSb, qSc, i64_w, i32_w]
       rfl
      refine pure_ (i := 4) (N := some 49) (v := ?_) (a' := ?_) #[true, true, true, true, true] rfl rfl (by kernel_rfl) (fun _ _ _ h => h) (Or.inl ⟨by rfl, ?_⟩) ?_ ?_
      rotate_left
      ·intro w'
       go_simp
       with_reducible rfl
      rotate_left
      ·simp only [Act.put, qSa, qSb, qSc, i64_w, i32_w]
       rfl
      refine done_ (by kernel_rfl) ?_
      have hnb66 := NB1155_1133.out
      have hnc66 := NB1133_1155.out
      have hnb67 := NB1155_1148.out
      have hnc67 := NB1148_1155.out
      have hnb68 := NB1155_1163.out
      have hnc68 := NB1163_1155.out
      have hcz69_0 : w65.cell? ⟨gb1155, 0, none⟩ = some (.int .i64 t1149) := (kQC BK1155.out 0).trans rfl
      have hcz69_1 : w65.cell? ⟨gb1155, 1, none⟩ = some (.int .i64 t1150) := (kQC BK1155.out 1).trans rfl
      have hcz69_2 : w65.cell? ⟨gb1155, 2, none⟩ = some (.slice Ao30 t1151.length co30) := (kQC BK1155.out 2).trans rfl
      have hcz69_3 : w65.cell? ⟨gb1155, 3, none⟩ = some (.int .i64 t1154) := (kQC BK1155.out 3).trans rfl
      have hfz69_0 := kQF BK1155.out 0
      have hfz69_1 := kQF BK1155.out 1
      have hfz69_2 := kQF BK1155.out 2
      have hfz69_3 := kQF BK1155.out 3
      go_upto_region 14 with (first | ((with_reducible refine gQc (f := 61) rfl ?_); refine goesL_ (some 52) rfl rfl Try.func61 (by kernel_rfl) rfl #[.agg #[.int .i64 t1149, .int .i64 t1150, .slice Ao30 t1151.length co30, .int .i64 t1154], .int .i64 1] rfl (by (try simp only [List.map_toArray, List.map_cons, List.map_nil]); first | done | rfl | (simp only [List.length_drop, List.length_take]; rfl)) ?_; (with_reducible refine (laws_markGabidulin.calls kj11 t1149 t1150 (fun k_ => some k_ = (.slice Ao30 t1151.length co30 : Value).ownBlock) (.slice Ao30 t1151.length co30) t1151 t1154 1 t1172 t1173 w _ ?side1 ?side2 A60.out).mono ?_); (case side1 => repeat (first | (with_reducible first | exact HB.out | apply bQA | apply bQN | apply bQ1 | refine bQS ?_ GE1133.out | refine bQS ?_ GE1148.out | refine bQS ?_ GE1155.out | refine bQS ?_ GE1163.out) | exact HB.out)); (case side2 => exact Kd.R_tight rfl HO_1156002.out); rintro e w70 ⟨rfl, hy0, hb, hkp⟩; refine ⟨_, rfl, ?_⟩; have n0_ := Aq.mk (Kd.R_mono (ok' := fun k_ => some k_ ≠ (.slice Ao30 t1151.length co30 : Value).ownBlock ∧ some k_ ≠ (.slice Ao37 t1158.length co37 : Value).ownBlock ∧ some k_ ≠ (.slice Ao64 t1167.length co64 : Value).ownBlock) (Kd.R_keptB (HO_1149002.out) hkp (fun k_ hk_ hs_ => (hk_.1.1) hs_)) (fun k_ hk_ => ⟨hk_.1.1.1, hk_.1.1.2, hk_.1.2⟩)); have n1_ := Aq.mk (Kd.R_reok rfl hy0 (fun k_ e_ => HO_1156002.out.1 k_ e_)); have n2_ := Aq.mk (Kd.R_mono (ok' := fun k_ => some k_ ≠ (.slice Ao23 t1143.length co23 : Value).ownBlock ∧ some k_ ≠ (.slice Ao30 t1151.length co30 : Value).ownBlock ∧ some k_ ≠ (.slice Ao64 t1167.length co64 : Value).ownBlock) (Kd.R_keptB (HO_1164002.out) hkp (fun k_ hk_ hs_ => (hk_.1.2) hs_)) (fun k_ hk_ => ⟨hk_.1.1.1, hk_.1.1.2, hk_.1.2⟩)); have n3_ := Aq.mk (blk_kept (by (with_reducible repeat (first | refine kQN ?_ _ | refine kQD ?_ | refine kQA ?_ _)); exact BK1133.out) hkp (fun hs_ => (fun e_ => (Kd.R_ne HO_1156002.out BK1133.out (by decide)) e_) hs_)); have n4_ := Aq.mk (blk_kept (by (with_reducible repeat (first | refine kQN ?_ _ | refine kQD ?_ | refine kQA ?_ _)); exact BK1148.out) hkp (fun hs_ => (fun e_ => (Kd.R_ne HO_1156002.out BK1148.out (by decide)) e_) hs_)); have n5_ := Aq.mk (blk_kept (by (with_reducible repeat (first | refine kQN ?_ _ | refine kQD ?_ | refine kQA ?_ _)); exact BK1155.out) hkp (fun hs_ => (fun e_ => (Kd.R_ne HO_1156002.out BK1155.out (by decide)) e_) hs_)); have n6_ := Aq.mk (blk_kept (by (with_reducible repeat (first | refine kQN ?_ _ | refine kQD ?_ | refine kQA ?_ _)); exact BK1163.out) hkp (fun hs_ => (fun e_ => (Kd.R_ne HO_1156002.out BK1163.out (by decide)) e_) hs_)); have n7_ := Aq.mk (Kd.R_mono (ok' := fun k_ => some k_ ≠ (.slice Ao23 t1143.length co23 : Value).ownBlock ∧ some k_ ≠ (.slice Ao30 t1151.length co30 : Value).ownBlock ∧ some k_ ≠ (.slice Ao37 t1158.length co37 : Value).ownBlock) (Kd.R_keptB (HO1169.out) hkp (fun k_ hk_ hs_ => (hk_.1.2) hs_)) (fun k_ hk_ => ⟨hk_.1.1.1.2, hk_.1.1.2, hk_.1.2⟩)); have n8_ := Aq.mk (hb); clear HO_1149002; clear HO_1156002; clear HO_1164002; clear BK1133; clear BK1148; clear BK1155; clear BK1163; clear HO1169; clear HB; have HO_1149002 := n0_; have HO_1156002 := n1_; have HO_1164002 := n2_; have BK1133 := n3_; have BK1148 := n4_; have BK1155 := n5_; have BK1163 := n6_; have HO1169 := n7_; have HB := n8_; clear n0_ n1_ n2_ n3_ n4_ n5_ n6_ n7_ n8_; (try clear hb); (try clear hkp); (try clear hy0)))
      (try simp only [Act.put, qSa, qSb, qSc])
      go_cut [65] (fun v65 wc => ∃ (kq : Nat) (x65_60 : Bool), v65 = .bool x65_60 ∧ Aq (laws_FnExactSquareGabidulin.j1 kq a1 t1147 x65_60 a0_0 a0_1 l0_2 a0_3 t1141 t1142 t1143 t1146 t1156 t1157 t1158 t1161 = some r) ∧ Aq (kq ≤ kj11) ∧ Aq (Kd.R (Kd.int .i64) 2 wc w.heap.size (fun k_ => some k_ ≠ ((.slice Ao30 t1151.length co30) : Value).ownBlock ∧ some k_ ≠ ((.slice Ao37 t1158.length co37) : Value).ownBlock) (.slice Ao23 t1143.length co23) t1143) ∧ Aq (Kd.R (Kd.int .i64) 2 wc w.heap.size (fun k_ => some k_ ≠ ((.slice Ao23 t1143.length co23) : Value).ownBlock ∧ some k_ ≠ ((.slice Ao37 t1158.length co37) : Value).ownBlock) (.slice Ao30 t1151.length co30) t1173) ∧ Aq (Kd.R (Kd.int .i64) 2 wc w.heap.size (fun k_ => some k_ ≠ ((.slice Ao23 t1143.length co23) : Value).ownBlock ∧ some k_ ≠ ((.slice Ao30 t1151.length co30) : Value).ownBlock) (.slice Ao37 t1158.length co37) t1158) ∧ Aq (wc.heap[gb1133]? = some (.cells #[.int .i64 a0_0, .int .i64 a0_1, (.slice A0_2 l0_2.length c0_2), .int .i64 a0_3] 45 (0, 0))) ∧ Aq (wc.heap[gb1148]? = some (.cells #[.int .i64 t1141, .int .i64 t1142, (.slice Ao23 t1143.length co23), .int .i64 t1146] 49 (0, 0))) ∧ Aq (wc.heap[gb1155]? = some (.cells #[.int .i64 t1149, .int .i64 t1150, (.slice Ao30 t1151.length co30), .int .i64 t1154] 49 (0, 0))) ∧ Aq (wc.heap[gb1163]? = some (.cells #[.int .i64 t1156, .int .i64 t1157, (.slice Ao37 t1158.length co37), .int .i64 t1161] 49 (0, 0))) ∧ Aq (Below w.heap.size w wc))
      case first =>
       have H := HC61.out
       clear HC61
       by_cases c71 : t1172 < 0
       ·rw [if_pos c71] at H
        have c71b0 : decide (t1172 < 0) = true := decide_eq_true c71
        clear c71
        (first | rw [c71b0] | (simp only [i64_w, i32_w]; rw [c71b0]) | skip)
        have H' := Aq.mk H
        clear H
        go_wp2
        go_meet
        case rel => exact ⟨_, (true), (by first | rfl | (simp; done) | (simp [*]; done)), H', ⟨by have := HJ11.out; first | omega | exact Nat.le_refl _⟩, ⟨by (with_reducible repeat (first | apply Kd.RqA | apply Kd.RqN | apply Kd.RqD)); exact Kd.R_mono HO_1149002.out (fun _ hk => ⟨hk.1, hk.2.1⟩)⟩, ⟨by (with_reducible repeat (first | apply Kd.RqA | apply Kd.RqN | apply Kd.RqD)); exact Kd.R_mono HO_1156002.out (fun _ hk => ⟨hk.1.1, hk.1.2⟩)⟩, ⟨by (with_reducible repeat (first | apply Kd.RqA | apply Kd.RqN | apply Kd.RqD)); exact Kd.R_mono HO_1164002.out (fun _ hk => ⟨hk.1, hk.2.1⟩)⟩, ⟨by (with_reducible repeat (first | refine kQN ?_ _ | refine kQD ?_ | refine kQA ?_ _)); exact BK1133.out⟩, ⟨by (with_reducible repeat (first | refine kQN ?_ _ | refine kQD ?_ | refine kQA ?_ _)); exact BK1148.out⟩, ⟨by (with_reducible repeat (first | refine kQN ?_ _ | refine kQD ?_ | refine kQA ?_ _)); exact BK1155.out⟩, ⟨by (with_reducible repeat (first | refine kQN ?_ _ | refine kQD ?_ | refine kQA ?_ _)); exact BK1163.out⟩, ⟨by repeat (first | (with_reducible first | exact HB.out | apply bQA | apply bQN | apply bQ1 | refine bQS ?_ GE1133.out | refine bQS ?_ GE1148.out | refine bQS ?_ GE1155.out | refine bQS ?_ GE1163.out) | exact HB.out)⟩⟩
       ·rw [if_neg c71] at H
        have c71b0 : decide (t1172 < 0) = false := decide_eq_false c71
        clear c71
        (first | rw [c71b0] | (simp only [i64_w, i32_w]; rw [c71b0]) | skip)
        replace H := Option.bind_eq_some_iff.mp H
        obtain ⟨t1174, A720, H⟩ := H
        replace H : (if t1174 = true then (laws_FnExactSquareGabidulin.j1 kj11 a1 t1147 (t1162 != t1147) a0_0 a0_1 l0_2 a0_3 t1141 t1142 t1143 t1146 t1156 t1157 t1158 t1161) else (laws_FnExactSquareGabidulin.j1 kj11 a1 t1147 true a0_0 a0_1 l0_2 a0_3 t1141 t1142 t1143 t1146 t1156 t1157 t1158 t1161)) = some r := H
        have A72 := Aq.mk A720
        clear A720
        by_cases c73 : t1174 = true
        ·subst c73
         have H1 : (laws_FnExactSquareGabidulin.j1 kj11 a1 t1147 (t1162 != t1147) a0_0 a0_1 l0_2 a0_3 t1141 t1142 t1143 t1146 t1156 t1157 t1158 t1161) = some r := by rw [if_pos rfl] at H; exact H
         clear H
         have H := H1
         clear H1
         have H' := Aq.mk H
         clear H
         have hnb74 := NB1163_1133.out
         have hnc74 := NB1133_1163.out
         have hnb75 := NB1163_1148.out
         have hnc75 := NB1148_1163.out
         have hnb76 := NB1163_1155.out
         have hnc76 := NB1155_1163.out
         have hcz77_0 : w70.cell? ⟨gb1163, 0, none⟩ = some (.int .i64 t1156) := (kQC BK1163.out 0).trans rfl
         have hcz77_1 : w70.cell? ⟨gb1163, 1, none⟩ = some (.int .i64 t1157) := (kQC BK1163.out 1).trans rfl
         have hcz77_2 : w70.cell? ⟨gb1163, 2, none⟩ = some (.slice Ao37 t1158.length co37) := (kQC BK1163.out 2).trans rfl
         have hcz77_3 : w70.cell? ⟨gb1163, 3, none⟩ = some (.int .i64 t1161) := (kQC BK1163.out 3).trans rfl
         have hfz77_0 := kQF BK1163.out 0
         have hfz77_1 := kQF BK1163.out 1
         have hfz77_2 := kQF BK1163.out 2
         have hfz77_3 := kQF BK1163.out 3
         have hnb78 := NB1148_1133.out
         have hnc78 := NB1133_1148.out
         have hnb79 := NB1148_1155.out
         have hnc79 := NB1155_1148.out
         have hcz80_0 : w70.cell? ⟨gb1148, 0, none⟩ = some (.int .i64 t1141) := (kQC BK1148.out 0).trans rfl
         have hcz80_1 : w70.cell? ⟨gb1148, 1, none⟩ = some (.int .i64 t1142) := (kQC BK1148.out 1).trans rfl
         have hcz80_2 : w70.cell? ⟨gb1148, 2, none⟩ = some (.slice Ao23 t1143.length co23) := (kQC BK1148.out 2).trans rfl
         have hcz80_3 : w70.cell? ⟨gb1148, 3, none⟩ = some (.int .i64 t1146) := (kQC BK1148.out 3).trans rfl
         have hfz80_0 := kQF BK1148.out 0
         have hfz80_1 := kQF BK1148.out 1
         have hfz80_2 := kQF BK1148.out 2
         have hfz80_3 := kQF BK1148.out 3
         go_wp2_with (first | (go_at_call 39; (with_reducible refine (laws_eqGabidulin.calls kj11 t1156 t1157 _ _ t1158 t1161 t1141 t1142 _ _ t1143 t1146 true _ ?side1 ?side2 ?side3 ?side4 A72.out).mono ?_); (case side1 => repeat (first | exact (Kd.R_reads' HO_1164002.out).2.2 | (with_reducible refine Kd.CqA ?_ _) | (with_reducible refine Kd.CqN ?_ _) | (with_reducible refine Kd.CqD ?_))); (case side2 => exact (Kd.R_reads' HO_1164002.out).2.1); (case side3 => repeat (first | exact (Kd.R_reads' HO_1149002.out).2.2 | (with_reducible refine Kd.CqA ?_ _) | (with_reducible refine Kd.CqN ?_ _) | (with_reducible refine Kd.CqD ?_))); (case side4 => exact (Kd.R_reads' HO_1149002.out).2.1); rintro e w81 ⟨rfl, hb⟩; have n0_ := Aq.mk (Kd.R_below (by (with_reducible repeat (first | apply Kd.RqA | apply Kd.RqN | apply Kd.RqD)); exact HO_1149002.out) hb); have n1_ := Aq.mk (Kd.R_below (by (with_reducible repeat (first | apply Kd.RqA | apply Kd.RqN | apply Kd.RqD)); exact HO_1156002.out) hb); have n2_ := Aq.mk (Kd.R_below (by (with_reducible repeat (first | apply Kd.RqA | apply Kd.RqN | apply Kd.RqD)); exact HO_1164002.out) hb); have n3_ := Aq.mk (Kd.R_below (by (with_reducible repeat (first | apply Kd.RqA | apply Kd.RqN | apply Kd.RqD)); exact HO1169.out) hb); have n4_ := Aq.mk (kQB (g := gb1133) (o := .cells #[.int .i64 a0_0, .int .i64 a0_1, .slice A0_2 l0_2.length c0_2, .int .i64 a0_3] 45 (0, 0)) (by (with_reducible repeat (first | refine kQN ?_ _ | refine kQD ?_ | refine kQA ?_ _)); exact BK1133.out) hb); have n5_ := Aq.mk (kQB (g := gb1148) (o := .cells #[.int .i64 t1141, .int .i64 t1142, .slice Ao23 t1143.length co23, .int .i64 t1146] 49 (0, 0)) (by (with_reducible repeat (first | refine kQN ?_ _ | refine kQD ?_ | refine kQA ?_ _)); exact BK1148.out) hb); have n6_ := Aq.mk (kQB (g := gb1155) (o := .cells #[.int .i64 t1149, .int .i64 t1150, .slice Ao30 t1151.length co30, .int .i64 t1154] 49 (0, 0)) (by (with_reducible repeat (first | refine kQN ?_ _ | refine kQD ?_ | refine kQA ?_ _)); exact BK1155.out) hb); have n7_ := Aq.mk (kQB (g := gb1163) (o := .cells #[.int .i64 t1156, .int .i64 t1157, .slice Ao37 t1158.length co37, .int .i64 t1161] 49 (0, 0)) (by (with_reducible repeat (first | refine kQN ?_ _ | refine kQD ?_ | refine kQA ?_ _)); exact BK1163.out) hb); have n8_ := Aq.mk (bQT (by repeat (first | (with_reducible first | exact HB.out | apply bQA | apply bQN | apply bQ1 | refine bQS ?_ GE1133.out | refine bQS ?_ GE1148.out | refine bQS ?_ GE1155.out | refine bQS ?_ GE1163.out) | exact HB.out)) hb); clear HO_1149002; clear HO_1156002; clear HO_1164002; clear HO1169; clear BK1133; clear BK1148; clear BK1155; clear BK1163; clear HB; have HO_1149002 := n0_; have HO_1156002 := n1_; have HO_1164002 := n2_; have HO1169 := n3_; have BK1133 := n4_; have BK1148 := n5_; have BK1155 := n6_; have BK1163 := n7_; have HB := n8_; clear n0_ n1_ n2_ n3_ n4_ n5_ n6_ n7_ n8_; (try clear hb); (try clear hb2); (try clear hk); (try clear hi)))
         go_meet
         case rel => exact ⟨_, ((t1162 != t1147)), (by first | rfl | (simp; done) | (simp [*]; done)), H', ⟨by have := HJ11.out; first | omega | exact Nat.le_refl _⟩, ⟨by (with_reducible repeat (first | apply Kd.RqA | apply Kd.RqN | apply Kd.RqD)); exact Kd.R_mono HO_1149002.out (fun _ hk => ⟨hk.1, hk.2.1⟩)⟩, ⟨by (with_reducible repeat (first | apply Kd.RqA | apply Kd.RqN | apply Kd.RqD)); exact Kd.R_mono HO_1156002.out (fun _ hk => ⟨hk.1.1, hk.1.2⟩)⟩, ⟨by (with_reducible repeat (first | apply Kd.RqA | apply Kd.RqN | apply Kd.RqD)); exact Kd.R_mono HO_1164002.out (fun _ hk => ⟨hk.1, hk.2.1⟩)⟩, ⟨by (with_reducible repeat (first | refine kQN ?_ _ | refine kQD ?_ | refine kQA ?_ _)); exact BK1133.out⟩, ⟨by (with_reducible repeat (first | refine kQN ?_ _ | refine kQD ?_ | refine kQA ?_ _)); exact BK1148.out⟩, ⟨by (with_reducible repeat (first | refine kQN ?_ _ | refine kQD ?_ | refine kQA ?_ _)); exact BK1155.out⟩, ⟨by (with_reducible repeat (first | refine kQN ?_ _ | refine kQD ?_ | refine kQA ?_ _)); exact BK1163.out⟩, ⟨by repeat (first | (with_reducible first | exact HB.out | apply bQA | apply bQN | apply bQ1 | refine bQS ?_ GE1133.out | refine bQS ?_ GE1148.out | refine bQS ?_ GE1155.out | refine bQS ?_ GE1163.out) | exact HB.out)⟩⟩
        ·replace c73 := Bool.eq_false_iff.mpr c73
         subst c73
         have H1 : (laws_FnExactSquareGabidulin.j1 kj11 a1 t1147 true a0_0 a0_1 l0_2 a0_3 t1141 t1142 t1143 t1146 t1156 t1157 t1158 t1161) = some r := by rw [if_neg (show ¬ (false = true) by decide)] at H; exact H
         clear H
         have H := H1
         clear H1
         have H' := Aq.mk H
         clear H
         have hnb82 := NB1163_1133.out
         have hnc82 := NB1133_1163.out
         have hnb83 := NB1163_1148.out
         have hnc83 := NB1148_1163.out
         have hnb84 := NB1163_1155.out
         have hnc84 := NB1155_1163.out
         have hcz85_0 : w70.cell? ⟨gb1163, 0, none⟩ = some (.int .i64 t1156) := (kQC BK1163.out 0).trans rfl
         have hcz85_1 : w70.cell? ⟨gb1163, 1, none⟩ = some (.int .i64 t1157) := (kQC BK1163.out 1).trans rfl
         have hcz85_2 : w70.cell? ⟨gb1163, 2, none⟩ = some (.slice Ao37 t1158.length co37) := (kQC BK1163.out 2).trans rfl
         have hcz85_3 : w70.cell? ⟨gb1163, 3, none⟩ = some (.int .i64 t1161) := (kQC BK1163.out 3).trans rfl
         have hfz85_0 := kQF BK1163.out 0
         have hfz85_1 := kQF BK1163.out 1
         have hfz85_2 := kQF BK1163.out 2
         have hfz85_3 := kQF BK1163.out 3
         have hnb86 := NB1148_1133.out
         have hnc86 := NB1133_1148.out
         have hnb87 := NB1148_1155.out
         have hnc87 := NB1155_1148.out
         have hcz88_0 : w70.cell? ⟨gb1148, 0, none⟩ = some (.int .i64 t1141) := (kQC BK1148.out 0).trans rfl
         have hcz88_1 : w70.cell? ⟨gb1148, 1, none⟩ = some (.int .i64 t1142) := (kQC BK1148.out 1).trans rfl
         have hcz88_2 : w70.cell? ⟨gb1148, 2, none⟩ = some (.slice Ao23 t1143.length co23) := (kQC BK1148.out 2).trans rfl
         have hcz88_3 : w70.cell? ⟨gb1148, 3, none⟩ = some (.int .i64 t1146) := (kQC BK1148.out 3).trans rfl
         have hfz88_0 := kQF BK1148.out 0
         have hfz88_1 := kQF BK1148.out 1
         have hfz88_2 := kQF BK1148.out 2
         have hfz88_3 := kQF BK1148.out 3
         go_wp2_with (first | (go_at_call 39; (with_reducible refine (laws_eqGabidulin.calls kj11 t1156 t1157 _ _ t1158 t1161 t1141 t1142 _ _ t1143 t1146 false _ ?side1 ?side2 ?side3 ?side4 A72.out).mono ?_); (case side1 => repeat (first | exact (Kd.R_reads' HO_1164002.out).2.2 | (with_reducible refine Kd.CqA ?_ _) | (with_reducible refine Kd.CqN ?_ _) | (with_reducible refine Kd.CqD ?_))); (case side2 => exact (Kd.R_reads' HO_1164002.out).2.1); (case side3 => repeat (first | exact (Kd.R_reads' HO_1149002.out).2.2 | (with_reducible refine Kd.CqA ?_ _) | (with_reducible refine Kd.CqN ?_ _) | (with_reducible refine Kd.CqD ?_))); (case side4 => exact (Kd.R_reads' HO_1149002.out).2.1); rintro e w89 ⟨rfl, hb⟩; have n0_ := Aq.mk (Kd.R_below (by (with_reducible repeat (first | apply Kd.RqA | apply Kd.RqN | apply Kd.RqD)); exact HO_1149002.out) hb); have n1_ := Aq.mk (Kd.R_below (by (with_reducible repeat (first | apply Kd.RqA | apply Kd.RqN | apply Kd.RqD)); exact HO_1156002.out) hb); have n2_ := Aq.mk (Kd.R_below (by (with_reducible repeat (first | apply Kd.RqA | apply Kd.RqN | apply Kd.RqD)); exact HO_1164002.out) hb); have n3_ := Aq.mk (Kd.R_below (by (with_reducible repeat (first | apply Kd.RqA | apply Kd.RqN | apply Kd.RqD)); exact HO1169.out) hb); have n4_ := Aq.mk (kQB (g := gb1133) (o := .cells #[.int .i64 a0_0, .int .i64 a0_1, .slice A0_2 l0_2.length c0_2, .int .i64 a0_3] 45 (0, 0)) (by (with_reducible repeat (first | refine kQN ?_ _ | refine kQD ?_ | refine kQA ?_ _)); exact BK1133.out) hb); have n5_ := Aq.mk (kQB (g := gb1148) (o := .cells #[.int .i64 t1141, .int .i64 t1142, .slice Ao23 t1143.length co23, .int .i64 t1146] 49 (0, 0)) (by (with_reducible repeat (first | refine kQN ?_ _ | refine kQD ?_ | refine kQA ?_ _)); exact BK1148.out) hb); have n6_ := Aq.mk (kQB (g := gb1155) (o := .cells #[.int .i64 t1149, .int .i64 t1150, .slice Ao30 t1151.length co30, .int .i64 t1154] 49 (0, 0)) (by (with_reducible repeat (first | refine kQN ?_ _ | refine kQD ?_ | refine kQA ?_ _)); exact BK1155.out) hb); have n7_ := Aq.mk (kQB (g := gb1163) (o := .cells #[.int .i64 t1156, .int .i64 t1157, .slice Ao37 t1158.length co37, .int .i64 t1161] 49 (0, 0)) (by (with_reducible repeat (first | refine kQN ?_ _ | refine kQD ?_ | refine kQA ?_ _)); exact BK1163.out) hb); have n8_ := Aq.mk (bQT (by repeat (first | (with_reducible first | exact HB.out | apply bQA | apply bQN | apply bQ1 | refine bQS ?_ GE1133.out | refine bQS ?_ GE1148.out | refine bQS ?_ GE1155.out | refine bQS ?_ GE1163.out) | exact HB.out)) hb); clear HO_1149002; clear HO_1156002; clear HO_1164002; clear HO1169; clear BK1133; clear BK1148; clear BK1155; clear BK1163; clear HB; have HO_1149002 := n0_; have HO_1156002 := n1_; have HO_1164002 := n2_; have HO1169 := n3_; have BK1133 := n4_; have BK1148 := n5_; have BK1155 := n6_; have BK1163 := n7_; have HB := n8_; clear n0_ n1_ n2_ n3_ n4_ n5_ n6_ n7_ n8_; (try clear hb); (try clear hb2); (try clear hk); (try clear hi)))
         go_meet
         case rel => exact ⟨_, (true), (by first | rfl | (simp; done) | (simp [*]; done)), H', ⟨by have := HJ11.out; first | omega | exact Nat.le_refl _⟩, ⟨by (with_reducible repeat (first | apply Kd.RqA | apply Kd.RqN | apply Kd.RqD)); exact Kd.R_mono HO_1149002.out (fun _ hk => ⟨hk.1, hk.2.1⟩)⟩, ⟨by (with_reducible repeat (first | apply Kd.RqA | apply Kd.RqN | apply Kd.RqD)); exact Kd.R_mono HO_1156002.out (fun _ hk => ⟨hk.1.1, hk.1.2⟩)⟩, ⟨by (with_reducible repeat (first | apply Kd.RqA | apply Kd.RqN | apply Kd.RqD)); exact Kd.R_mono HO_1164002.out (fun _ hk => ⟨hk.1, hk.2.1⟩)⟩, ⟨by (with_reducible repeat (first | refine kQN ?_ _ | refine kQD ?_ | refine kQA ?_ _)); exact BK1133.out⟩, ⟨by (with_reducible repeat (first | refine kQN ?_ _ | refine kQD ?_ | refine kQA ?_ _)); exact BK1148.out⟩, ⟨by (with_reducible repeat (first | refine kQN ?_ _ | refine kQD ?_ | refine kQA ?_ _)); exact BK1155.out⟩, ⟨by (with_reducible repeat (first | refine kQN ?_ _ | refine kQD ?_ | refine kQA ?_ _)); exact BK1163.out⟩, ⟨by repeat (first | (with_reducible first | exact HB.out | apply bQA | apply bQN | apply bQ1 | refine bQS ?_ GE1133.out | refine bQS ?_ GE1148.out | refine bQS ?_ GE1155.out | refine bQS ?_ GE1163.out) | exact HB.out)⟩⟩
      case rest =>
       clear HC61
       try clear c1
       try clear c2
       try clear p2
       try clear c3
       try clear c4
       try clear c4b0
       try clear c5
       try clear c6
       try clear c7
       try clear c8
       try clear c15
       try clear c21
       try clear c27
       try clear c28
       try clear c33
       try clear c34
       try clear c35
       try clear c37
       try clear c39
       try clear c40
       try clear c41
       try clear c42
       try clear c44
       try clear c45
       try clear c48
       try clear c49
       try clear c50
       try clear c52
       try clear c53
       try clear c56
       try clear c59
       try clear c60
       try clear c61
       try clear c66
       try clear c67
       try clear c68
       try clear c71
       try clear c71b0
       try clear c73
       try clear c74
       try clear c75
       try clear c76
       try clear c78
       try clear c79
       try clear c82
       try clear c83
       try clear c84
       try clear c86
       try clear c87
       try clear hcz14_0
       try clear hcz14_1
       try clear hcz14_2
       try clear hcz14_3
       try clear hcz16_0
       try clear hcz16_1
       try clear hcz16_2
       try clear hcz16_3
       try clear hcz22_0
       try clear hcz22_1
       try clear hcz22_2
       try clear hcz22_3
       try clear hcz24_0
       try clear hcz24_1
       try clear hcz24_2
       try clear hcz24_3
       try clear hcz29_0
       try clear hcz29_1
       try clear hcz29_2
       try clear hcz29_3
       try clear hcz36_0
       try clear hcz36_1
       try clear hcz36_2
       try clear hcz36_3
       try clear hcz43_0
       try clear hcz43_1
       try clear hcz43_2
       try clear hcz43_3
       try clear hcz46_0
       try clear hcz46_1
       try clear hcz46_2
       try clear hcz46_3
       try clear hcz51_0
       try clear hcz51_1
       try clear hcz51_2
       try clear hcz51_3
       try clear hcz54_0
       try clear hcz54_1
       try clear hcz54_2
       try clear hcz54_3
       try clear hcz69_0
       try clear hcz69_1
       try clear hcz69_2
       try clear hcz69_3
       try clear hcz6_0
       try clear hcz6_1
       try clear hcz6_2
       try clear hcz6_3
       try clear hcz77_0
       try clear hcz77_1
       try clear hcz77_2
       try clear hcz77_3
       try clear hcz80_0
       try clear hcz80_1
       try clear hcz80_2
       try clear hcz80_3
       try clear hcz85_0
       try clear hcz85_1
       try clear hcz85_2
       try clear hcz85_3
       try clear hcz88_0
       try clear hcz88_1
       try clear hcz88_2
       try clear hcz88_3
       try clear hfz14_0
       try clear hfz14_1
       try clear hfz14_2
       try clear hfz14_3
       try clear hfz16_0
       try clear hfz16_1
       try clear hfz16_2
       try clear hfz16_3
       try clear hfz22_0
       try clear hfz22_1
       try clear hfz22_2
       try clear hfz22_3
       try clear hfz24_0
       try clear hfz24_1
       try clear hfz24_2
       try clear hfz24_3
       try clear hfz29_0
       try clear hfz29_1
       try clear hfz29_2
       try clear hfz29_3
       try clear hfz36_0
       try clear hfz36_1
       try clear hfz36_2
       try clear hfz36_3
       try clear hfz43_0
       try clear hfz43_1
       try clear hfz43_2
       try clear hfz43_3
       try clear hfz46_0
       try clear hfz46_1
       try clear hfz46_2
       try clear hfz46_3
       try clear hfz51_0
       try clear hfz51_1
       try clear hfz51_2
       try clear hfz51_3
       try clear hfz54_0
       try clear hfz54_1
       try clear hfz54_2
       try clear hfz54_3
       try clear hfz69_0
       try clear hfz69_1
       try clear hfz69_2
       try clear hfz69_3
       try clear hfz6_0
       try clear hfz6_1
       try clear hfz6_2
       try clear hfz6_3
       try clear hfz77_0
       try clear hfz77_1
       try clear hfz77_2
       try clear hfz77_3
       try clear hfz80_0
       try clear hfz80_1
       try clear hfz80_2
       try clear hfz80_3
       try clear hfz85_0
       try clear hfz85_1
       try clear hfz85_2
       try clear hfz85_3
       try clear hfz88_0
       try clear hfz88_1
       try clear hfz88_2
       try clear hfz88_3
       try clear p2
       obtain ⟨kq, x65_60, rfl, HA, HJ60, HO_1149002, HO_1156002, HO_1164002, BK1133, BK1148, BK1155, BK1163, HB⟩ := hcut
       have hl1156002_60 := (Kd.R_reads' HO_1156002.out).1
       rw [hl1156002_60] at HO_1156002
       (try simp only [hl1156002_60])
       (try simp only [hl1156002_60] at BK1133)
       (try simp only [hl1156002_60] at BK1148)
       (try simp only [hl1156002_60] at BK1155)
       (try simp only [hl1156002_60] at BK1163)
       (try simp only [hl1156002_60] at HO_1149002)
       (try simp only [hl1156002_60] at HO_1164002)
       cases kq with
       | zero => exact absurd HA.out (by simp [laws_FnExactSquareGabidulin.j1])
       | succ kj60 =>
        have H := HA.out
        clear HA
        simp only [laws_FnExactSquareGabidulin.j1] at H
        by_cases c90 : x65_60 = true
        ·subst c90
         have H1 : (some false) = some r := by rw [if_pos rfl] at H; exact H
         clear H
         have H := H1
         clear H1
         obtain rfl := Option.some.inj H
         go_wp2
         go_ret
         exact ⟨by first | rfl | (simp [errW_none, errW_some] <;> rfl) | (simp [*, errW_none, errW_some] <;> rfl), by repeat (first | (with_reducible first | exact HB.out | apply bQA | apply bQN | apply bQ1 | refine bQS ?_ GE1133.out | refine bQS ?_ GE1148.out | refine bQS ?_ GE1155.out | refine bQS ?_ GE1163.out) | exact HB.out)⟩
        ·replace c90 := Bool.eq_false_iff.mpr c90
         subst c90
         have H1 : ((laws_markGabidulin.f kj60 t1156 t1157 t1158 t1161 1).bind fun bt1175 => ((laws_heldGabidulin.f kj60 t1156 t1157 bt1175.2 t1161 1).bind fun t1177 => (if t1177 < 0 then (some false) else (if t1177 = bt1175.1 then ((laws_toGabidulin.f kj60 a0_0 a0_1 l0_2 a0_3).bind fun bt1178 => ((impl_SquareGabidulin.f kj60 bt1178.1 bt1178.2.1 bt1178.2.2.1 bt1178.2.2.2 a1).bind fun bt1184 => ((laws_eqGabidulin.f kj60 bt1184.1 bt1184.2.1 bt1184.2.2.1 bt1184.2.2.2.1 t1141 t1142 t1143 t1146).bind fun t1192 => (if t1192 = true then (laws_FnExactSquareGabidulin.j2 kj60 bt1175.1 (bt1184.2.2.2.2 != t1147) t1156 t1157 bt1175.2 t1161) else (laws_FnExactSquareGabidulin.j2 kj60 bt1175.1 true t1156 t1157 bt1175.2 t1161))))) else (some false))))) = some r := by rw [if_neg (show ¬ (false = true) by decide)] at H; exact H
         clear H
         have H := H1
         clear H1
         replace H := Option.bind_eq_some_iff.mp H
         obtain ⟨⟨t1175, t1176⟩, A910, H⟩ := H
         replace H : ((laws_heldGabidulin.f kj60 t1156 t1157 t1176 t1161 1).bind fun t1177 => (if t1177 < 0 then (some false) else (if t1177 = t1175 then ((laws_toGabidulin.f kj60 a0_0 a0_1 l0_2 a0_3).bind fun bt1178 => ((impl_SquareGabidulin.f kj60 bt1178.1 bt1178.2.1 bt1178.2.2.1 bt1178.2.2.2 a1).bind fun bt1184 => ((laws_eqGabidulin.f kj60 bt1184.1 bt1184.2.1 bt1184.2.2.1 bt1184.2.2.2.1 t1141 t1142 t1143 t1146).bind fun t1192 => (if t1192 = true then (laws_FnExactSquareGabidulin.j2 kj60 t1175 (bt1184.2.2.2.2 != t1147) t1156 t1157 t1176 t1161) else (laws_FnExactSquareGabidulin.j2 kj60 t1175 true t1156 t1157 t1176 t1161))))) else (some false)))) = some r := H
         have A91 := Aq.mk A910
         clear A910
         replace H := Option.bind_eq_some_iff.mp H
         obtain ⟨t1177, A920, H⟩ := H
         replace H : (if t1177 < 0 then (some false) else (if t1177 = t1175 then ((laws_toGabidulin.f kj60 a0_0 a0_1 l0_2 a0_3).bind fun bt1178 => ((impl_SquareGabidulin.f kj60 bt1178.1 bt1178.2.1 bt1178.2.2.1 bt1178.2.2.2 a1).bind fun bt1184 => ((laws_eqGabidulin.f kj60 bt1184.1 bt1184.2.1 bt1184.2.2.1 bt1184.2.2.2.1 t1141 t1142 t1143 t1146).bind fun t1192 => (if t1192 = true then (laws_FnExactSquareGabidulin.j2 kj60 t1175 (bt1184.2.2.2.2 != t1147) t1156 t1157 t1176 t1161) else (laws_FnExactSquareGabidulin.j2 kj60 t1175 true t1156 t1157 t1176 t1161))))) else (some false))) = some r := H
         have A92 := Aq.mk A920
         clear A920
         by_cases c93 : t1177 < 0
         ·rw [if_pos c93] at H
          have c93b0 : decide (t1177 < 0) = true := decide_eq_true c93
          clear c93
          (try (have c93b0z := c93b0; simp only [hl1156002_60] at c93b0z))
          obtain rfl := Option.some.inj H
          have hnb94 := NB1163_1133.out
          have hnc94 := NB1133_1163.out
          have hnb95 := NB1163_1148.out
          have hnc95 := NB1148_1163.out
          have hnb96 := NB1163_1155.out
          have hnc96 := NB1155_1163.out
          have hcz97_0 : wc.cell? ⟨gb1163, 0, none⟩ = some (.int .i64 t1156) := (kQC BK1163.out 0).trans rfl
          have hcz97_1 : wc.cell? ⟨gb1163, 1, none⟩ = some (.int .i64 t1157) := (kQC BK1163.out 1).trans rfl
          have hcz97_2 : wc.cell? ⟨gb1163, 2, none⟩ = some (.slice Ao37 t1158.length co37) := (kQC BK1163.out 2).trans rfl
          have hcz97_3 : wc.cell? ⟨gb1163, 3, none⟩ = some (.int .i64 t1161) := (kQC BK1163.out 3).trans rfl
          have hfz97_0 := kQF BK1163.out 0
          have hfz97_1 := kQF BK1163.out 1
          have hfz97_2 := kQF BK1163.out 2
          have hfz97_3 := kQF BK1163.out 3
          go_wp2_with (first | ((with_reducible refine gQc (f := 61) rfl ?_); refine goesL_ (some 68) rfl rfl Try.func61 (by kernel_rfl) rfl #[.agg #[.int .i64 t1156, .int .i64 t1157, .slice Ao37 t1158.length co37, .int .i64 t1161], .int .i64 1] rfl (by (try simp only [List.map_toArray, List.map_cons, List.map_nil]); first | done | rfl | (simp only [List.length_drop, List.length_take]; rfl)) ?_; (with_reducible refine (laws_markGabidulin.calls kj60 t1156 t1157 (fun k_ => some k_ = (.slice Ao37 t1158.length co37 : Value).ownBlock) (.slice Ao37 t1158.length co37) t1158 t1161 1 t1175 t1176 w _ ?side1 ?side2 A91.out).mono ?_); (case side1 => repeat (first | (with_reducible first | exact HB.out | apply bQA | apply bQN | apply bQ1 | refine bQS ?_ GE1133.out | refine bQS ?_ GE1148.out | refine bQS ?_ GE1155.out | refine bQS ?_ GE1163.out) | exact HB.out)); (case side2 => exact Kd.R_tight rfl HO_1164002.out); rintro e w98 ⟨rfl, hy0, hb, hkp⟩; refine ⟨_, rfl, ?_⟩; have n0_ := Aq.mk (Kd.R_mono (ok' := fun k_ => some k_ ≠ (.slice Ao30 t1173.length co30 : Value).ownBlock ∧ some k_ ≠ (.slice Ao37 t1158.length co37 : Value).ownBlock) (Kd.R_keptB (HO_1149002.out) hkp (fun k_ hk_ hs_ => (hk_.2) hs_)) (fun k_ hk_ => ⟨hk_.1.1, hk_.1.2⟩)); have n1_ := Aq.mk (Kd.R_mono (ok' := fun k_ => some k_ ≠ (.slice Ao23 t1143.length co23 : Value).ownBlock ∧ some k_ ≠ (.slice Ao37 t1158.length co37 : Value).ownBlock) (Kd.R_keptB (HO_1156002.out) hkp (fun k_ hk_ hs_ => (hk_.2) hs_)) (fun k_ hk_ => ⟨hk_.1.1, hk_.1.2⟩)); have n2_ := Aq.mk (Kd.R_reok rfl hy0 (fun k_ e_ => HO_1164002.out.1 k_ e_)); have n3_ := Aq.mk (blk_kept (by (with_reducible repeat (first | refine kQN ?_ _ | refine kQD ?_ | refine kQA ?_ _)); exact BK1133.out) hkp (fun hs_ => (fun e_ => (Kd.R_ne HO_1164002.out BK1133.out (by decide)) e_) hs_)); have n4_ := Aq.mk (blk_kept (by (with_reducible repeat (first | refine kQN ?_ _ | refine kQD ?_ | refine kQA ?_ _)); exact BK1148.out) hkp (fun hs_ => (fun e_ => (Kd.R_ne HO_1164002.out BK1148.out (by decide)) e_) hs_)); have n5_ := Aq.mk (blk_kept (by (with_reducible repeat (first | refine kQN ?_ _ | refine kQD ?_ | refine kQA ?_ _)); exact BK1155.out) hkp (fun hs_ => (fun e_ => (Kd.R_ne HO_1164002.out BK1155.out (by decide)) e_) hs_)); have n6_ := Aq.mk (blk_kept (by (with_reducible repeat (first | refine kQN ?_ _ | refine kQD ?_ | refine kQA ?_ _)); exact BK1163.out) hkp (fun hs_ => (fun e_ => (Kd.R_ne HO_1164002.out BK1163.out (by decide)) e_) hs_)); have n7_ := Aq.mk (hb); clear HO_1149002; clear HO_1156002; clear HO_1164002; clear BK1133; clear BK1148; clear BK1155; clear BK1163; clear HB; have HO_1149002 := n0_; have HO_1156002 := n1_; have HO_1164002 := n2_; have BK1133 := n3_; have BK1148 := n4_; have BK1155 := n5_; have BK1163 := n6_; have HB := n7_; clear n0_ n1_ n2_ n3_ n4_ n5_ n6_ n7_; (try clear hb); (try clear hkp); (try clear hy0); have hcz99_0 : w98.cell? ⟨gb1163, 0, none⟩ = some (.int .i64 t1156) := (kQC BK1163.out 0).trans rfl; have hcz99_1 : w98.cell? ⟨gb1163, 1, none⟩ = some (.int .i64 t1157) := (kQC BK1163.out 1).trans rfl; have hcz99_2 : w98.cell? ⟨gb1163, 2, none⟩ = some (.slice Ao37 t1158.length co37) := (kQC BK1163.out 2).trans rfl; have hcz99_3 : w98.cell? ⟨gb1163, 3, none⟩ = some (.int .i64 t1161) := (kQC BK1163.out 3).trans rfl; have hfz99_0 := kQF BK1163.out 0; have hfz99_1 := kQF BK1163.out 1; have hfz99_2 := kQF BK1163.out 2; have hfz99_3 := kQF BK1163.out 3) | ((with_reducible refine gQc (f := 62) rfl ?_); refine goesL_ (some 71) rfl rfl Try.func62 (by kernel_rfl) rfl #[.agg #[.int .i64 t1156, .int .i64 t1157, .slice Ao37 t1176.length co37, .int .i64 t1161], .int .i64 1] rfl (by (try simp only [List.map_toArray, List.map_cons, List.map_nil]); first | done | (rw [show t1176.length = t1158.length from (Kd.R_reads' HO_1164002.out).1.symm] <;> rfl) | rfl | (simp only [List.length_drop, List.length_take]; rfl)) ?_; (with_reducible refine (laws_heldGabidulin.calls kj60 t1156 t1157 _ _ t1176 t1161 1 t1177 _ ?side1 ?side2 A92.out).mono ?_); (case side1 => repeat (first | exact (Kd.R_reads' HO_1164002.out).2.2 | (with_reducible refine Kd.CqA ?_ _) | (with_reducible refine Kd.CqN ?_ _) | (with_reducible refine Kd.CqD ?_))); (case side2 => rw [show t1176.length = t1158.length from (Kd.R_reads' HO_1164002.out).1.symm]; exact (Kd.R_reads' HO_1164002.out).2.1); rintro e w100 ⟨rfl, hb⟩; refine ⟨_, rfl, ?_⟩; have n0_ := Aq.mk (Kd.R_below (by (with_reducible repeat (first | apply Kd.RqA | apply Kd.RqN | apply Kd.RqD)); exact HO_1149002.out) hb); have n1_ := Aq.mk (Kd.R_below (by (with_reducible repeat (first | apply Kd.RqA | apply Kd.RqN | apply Kd.RqD)); exact HO_1156002.out) hb); have n2_ := Aq.mk (Kd.R_below (by (with_reducible repeat (first | apply Kd.RqA | apply Kd.RqN | apply Kd.RqD)); exact HO_1164002.out) hb); have n3_ := Aq.mk (kQB (g := gb1133) (o := .cells #[.int .i64 a0_0, .int .i64 a0_1, .slice A0_2 l0_2.length c0_2, .int .i64 a0_3] 45 (0, 0)) (by (with_reducible repeat (first | refine kQN ?_ _ | refine kQD ?_ | refine kQA ?_ _)); exact BK1133.out) hb); have n4_ := Aq.mk (kQB (g := gb1148) (o := .cells #[.int .i64 t1141, .int .i64 t1142, .slice Ao23 t1143.length co23, .int .i64 t1146] 49 (0, 0)) (by (with_reducible repeat (first | refine kQN ?_ _ | refine kQD ?_ | refine kQA ?_ _)); exact BK1148.out) hb); have n5_ := Aq.mk (kQB (g := gb1155) (o := .cells #[.int .i64 t1149, .int .i64 t1150, .slice Ao30 t1173.length co30, .int .i64 t1154] 49 (0, 0)) (by (with_reducible repeat (first | refine kQN ?_ _ | refine kQD ?_ | refine kQA ?_ _)); exact BK1155.out) hb); have n6_ := Aq.mk (kQB (g := gb1163) (o := .cells #[.int .i64 t1156, .int .i64 t1157, .slice Ao37 t1158.length co37, .int .i64 t1161] 49 (0, 0)) (by (with_reducible repeat (first | refine kQN ?_ _ | refine kQD ?_ | refine kQA ?_ _)); exact BK1163.out) hb); have n7_ := Aq.mk (bQT (by repeat (first | (with_reducible first | exact HB.out | apply bQA | apply bQN | apply bQ1 | refine bQS ?_ GE1133.out | refine bQS ?_ GE1148.out | refine bQS ?_ GE1155.out | refine bQS ?_ GE1163.out) | exact HB.out)) hb); clear HO_1149002; clear HO_1156002; clear HO_1164002; clear BK1133; clear BK1148; clear BK1155; clear BK1163; clear HB; have HO_1149002 := n0_; have HO_1156002 := n1_; have HO_1164002 := n2_; have BK1133 := n3_; have BK1148 := n4_; have BK1155 := n5_; have BK1163 := n6_; have HB := n7_; clear n0_ n1_ n2_ n3_ n4_ n5_ n6_ n7_; (try clear hb); (try clear hb2); (try clear hk); (try clear hi)))
          go_ret
          exact ⟨by first | rfl | (simp [errW_none, errW_some] <;> rfl) | (simp [*, errW_none, errW_some] <;> rfl), by repeat (first | (with_reducible first | exact HB.out | apply bQA | apply bQN | apply bQ1 | refine bQS ?_ GE1133.out | refine bQS ?_ GE1148.out | refine bQS ?_ GE1155.out | refine bQS ?_ GE1163.out) | exact HB.out)⟩
         ·rw [if_neg c93] at H
          have c93b0 : decide (t1177 < 0) = false := decide_eq_false c93
          clear c93
          (try (have c93b0z := c93b0; simp only [hl1156002_60] at c93b0z))
          by_cases c101 : t1177 = t1175
          ·rw [if_pos c101] at H
           have c101b0 : (t1177 == t1175) = true := beq_iff_eq.mpr c101
           have c101b1 : (t1177 != t1175) = false := bne_eq_false_iff_eq.mpr c101
           clear c101
           (try (have c101b0z := c101b0; simp only [hl1156002_60] at c101b0z))
           (try (have c101b1z := c101b1; simp only [hl1156002_60] at c101b1z))
           replace H := Option.bind_eq_some_iff.mp H
           obtain ⟨⟨t1178, t1179, t1180, t1183⟩, A1020, H⟩ := H
           replace H : ((impl_SquareGabidulin.f kj60 t1178 t1179 t1180 t1183 a1).bind fun bt1184 => ((laws_eqGabidulin.f kj60 bt1184.1 bt1184.2.1 bt1184.2.2.1 bt1184.2.2.2.1 t1141 t1142 t1143 t1146).bind fun t1192 => (if t1192 = true then (laws_FnExactSquareGabidulin.j2 kj60 t1175 (bt1184.2.2.2.2 != t1147) t1156 t1157 t1176 t1161) else (laws_FnExactSquareGabidulin.j2 kj60 t1175 true t1156 t1157 t1176 t1161)))) = some r := H
           have A102 := Aq.mk A1020
           clear A1020
           replace H := Option.bind_eq_some_iff.mp H
           obtain ⟨⟨t1184, t1185, t1186, t1189, t1190⟩, A1030, H⟩ := H
           replace H : ((laws_eqGabidulin.f kj60 t1184 t1185 t1186 t1189 t1141 t1142 t1143 t1146).bind fun t1192 => (if t1192 = true then (laws_FnExactSquareGabidulin.j2 kj60 t1175 (t1190 != t1147) t1156 t1157 t1176 t1161) else (laws_FnExactSquareGabidulin.j2 kj60 t1175 true t1156 t1157 t1176 t1161))) = some r := H
           have A103 := Aq.mk A1030
           clear A1030
           have HC104 := Aq.mk H
           clear H
           have hnb105 := NB1163_1133.out
           have hnc105 := NB1133_1163.out
           have hnb106 := NB1163_1148.out
           have hnc106 := NB1148_1163.out
           have hnb107 := NB1163_1155.out
           have hnc107 := NB1155_1163.out
           have hcz108_0 : wc.cell? ⟨gb1163, 0, none⟩ = some (.int .i64 t1156) := (kQC BK1163.out 0).trans rfl
           have hcz108_1 : wc.cell? ⟨gb1163, 1, none⟩ = some (.int .i64 t1157) := (kQC BK1163.out 1).trans rfl
           have hcz108_2 : wc.cell? ⟨gb1163, 2, none⟩ = some (.slice Ao37 t1158.length co37) := (kQC BK1163.out 2).trans rfl
           have hcz108_3 : wc.cell? ⟨gb1163, 3, none⟩ = some (.int .i64 t1161) := (kQC BK1163.out 3).trans rfl
           have hfz108_0 := kQF BK1163.out 0
           have hfz108_1 := kQF BK1163.out 1
           have hfz108_2 := kQF BK1163.out 2
           have hfz108_3 := kQF BK1163.out 3
           go_upto_region 25 with (first | ((with_reducible refine gQc (f := 61) rfl ?_); refine goesL_ (some 68) rfl rfl Try.func61 (by kernel_rfl) rfl #[.agg #[.int .i64 t1156, .int .i64 t1157, .slice Ao37 t1158.length co37, .int .i64 t1161], .int .i64 1] rfl (by (try simp only [List.map_toArray, List.map_cons, List.map_nil]); first | done | rfl | (simp only [List.length_drop, List.length_take]; rfl)) ?_; (with_reducible refine (laws_markGabidulin.calls kj60 t1156 t1157 (fun k_ => some k_ = (.slice Ao37 t1158.length co37 : Value).ownBlock) (.slice Ao37 t1158.length co37) t1158 t1161 1 t1175 t1176 w _ ?side1 ?side2 A91.out).mono ?_); (case side1 => repeat (first | (with_reducible first | exact HB.out | apply bQA | apply bQN | apply bQ1 | refine bQS ?_ GE1133.out | refine bQS ?_ GE1148.out | refine bQS ?_ GE1155.out | refine bQS ?_ GE1163.out) | exact HB.out)); (case side2 => exact Kd.R_tight rfl HO_1164002.out); rintro e w109 ⟨rfl, hy0, hb, hkp⟩; refine ⟨_, rfl, ?_⟩; have n0_ := Aq.mk (Kd.R_mono (ok' := fun k_ => some k_ ≠ (.slice Ao30 t1173.length co30 : Value).ownBlock ∧ some k_ ≠ (.slice Ao37 t1158.length co37 : Value).ownBlock) (Kd.R_keptB (HO_1149002.out) hkp (fun k_ hk_ hs_ => (hk_.2) hs_)) (fun k_ hk_ => ⟨hk_.1.1, hk_.1.2⟩)); have n1_ := Aq.mk (Kd.R_mono (ok' := fun k_ => some k_ ≠ (.slice Ao23 t1143.length co23 : Value).ownBlock ∧ some k_ ≠ (.slice Ao37 t1158.length co37 : Value).ownBlock) (Kd.R_keptB (HO_1156002.out) hkp (fun k_ hk_ hs_ => (hk_.2) hs_)) (fun k_ hk_ => ⟨hk_.1.1, hk_.1.2⟩)); have n2_ := Aq.mk (Kd.R_reok rfl hy0 (fun k_ e_ => HO_1164002.out.1 k_ e_)); have n3_ := Aq.mk (blk_kept (by (with_reducible repeat (first | refine kQN ?_ _ | refine kQD ?_ | refine kQA ?_ _)); exact BK1133.out) hkp (fun hs_ => (fun e_ => (Kd.R_ne HO_1164002.out BK1133.out (by decide)) e_) hs_)); have n4_ := Aq.mk (blk_kept (by (with_reducible repeat (first | refine kQN ?_ _ | refine kQD ?_ | refine kQA ?_ _)); exact BK1148.out) hkp (fun hs_ => (fun e_ => (Kd.R_ne HO_1164002.out BK1148.out (by decide)) e_) hs_)); have n5_ := Aq.mk (blk_kept (by (with_reducible repeat (first | refine kQN ?_ _ | refine kQD ?_ | refine kQA ?_ _)); exact BK1155.out) hkp (fun hs_ => (fun e_ => (Kd.R_ne HO_1164002.out BK1155.out (by decide)) e_) hs_)); have n6_ := Aq.mk (blk_kept (by (with_reducible repeat (first | refine kQN ?_ _ | refine kQD ?_ | refine kQA ?_ _)); exact BK1163.out) hkp (fun hs_ => (fun e_ => (Kd.R_ne HO_1164002.out BK1163.out (by decide)) e_) hs_)); have n7_ := Aq.mk (hb); clear HO_1149002; clear HO_1156002; clear HO_1164002; clear BK1133; clear BK1148; clear BK1155; clear BK1163; clear HB; have HO_1149002 := n0_; have HO_1156002 := n1_; have HO_1164002 := n2_; have BK1133 := n3_; have BK1148 := n4_; have BK1155 := n5_; have BK1163 := n6_; have HB := n7_; clear n0_ n1_ n2_ n3_ n4_ n5_ n6_ n7_; (try clear hb); (try clear hkp); (try clear hy0); have hcz110_0 : w109.cell? ⟨gb1163, 0, none⟩ = some (.int .i64 t1156) := (kQC BK1163.out 0).trans rfl; have hcz110_1 : w109.cell? ⟨gb1163, 1, none⟩ = some (.int .i64 t1157) := (kQC BK1163.out 1).trans rfl; have hcz110_2 : w109.cell? ⟨gb1163, 2, none⟩ = some (.slice Ao37 t1158.length co37) := (kQC BK1163.out 2).trans rfl; have hcz110_3 : w109.cell? ⟨gb1163, 3, none⟩ = some (.int .i64 t1161) := (kQC BK1163.out 3).trans rfl; have hfz110_0 := kQF BK1163.out 0; have hfz110_1 := kQF BK1163.out 1; have hfz110_2 := kQF BK1163.out 2; have hfz110_3 := kQF BK1163.out 3) | ((with_reducible refine gQc (f := 62) rfl ?_); refine goesL_ (some 71) rfl rfl Try.func62 (by kernel_rfl) rfl #[.agg #[.int .i64 t1156, .int .i64 t1157, .slice Ao37 t1176.length co37, .int .i64 t1161], .int .i64 1] rfl (by (try simp only [List.map_toArray, List.map_cons, List.map_nil]); first | done | (rw [show t1176.length = t1158.length from (Kd.R_reads' HO_1164002.out).1.symm] <;> rfl) | rfl | (simp only [List.length_drop, List.length_take]; rfl)) ?_; (with_reducible refine (laws_heldGabidulin.calls kj60 t1156 t1157 _ _ t1176 t1161 1 t1177 _ ?side1 ?side2 A92.out).mono ?_); (case side1 => repeat (first | exact (Kd.R_reads' HO_1164002.out).2.2 | (with_reducible refine Kd.CqA ?_ _) | (with_reducible refine Kd.CqN ?_ _) | (with_reducible refine Kd.CqD ?_))); (case side2 => rw [show t1176.length = t1158.length from (Kd.R_reads' HO_1164002.out).1.symm]; exact (Kd.R_reads' HO_1164002.out).2.1); rintro e w111 ⟨rfl, hb⟩; refine ⟨_, rfl, ?_⟩; have n0_ := Aq.mk (Kd.R_below (by (with_reducible repeat (first | apply Kd.RqA | apply Kd.RqN | apply Kd.RqD)); exact HO_1149002.out) hb); have n1_ := Aq.mk (Kd.R_below (by (with_reducible repeat (first | apply Kd.RqA | apply Kd.RqN | apply Kd.RqD)); exact HO_1156002.out) hb); have n2_ := Aq.mk (Kd.R_below (by (with_reducible repeat (first | apply Kd.RqA | apply Kd.RqN | apply Kd.RqD)); exact HO_1164002.out) hb); have n3_ := Aq.mk (kQB (g := gb1133) (o := .cells #[.int .i64 a0_0, .int .i64 a0_1, .slice A0_2 l0_2.length c0_2, .int .i64 a0_3] 45 (0, 0)) (by (with_reducible repeat (first | refine kQN ?_ _ | refine kQD ?_ | refine kQA ?_ _)); exact BK1133.out) hb); have n4_ := Aq.mk (kQB (g := gb1148) (o := .cells #[.int .i64 t1141, .int .i64 t1142, .slice Ao23 t1143.length co23, .int .i64 t1146] 49 (0, 0)) (by (with_reducible repeat (first | refine kQN ?_ _ | refine kQD ?_ | refine kQA ?_ _)); exact BK1148.out) hb); have n5_ := Aq.mk (kQB (g := gb1155) (o := .cells #[.int .i64 t1149, .int .i64 t1150, .slice Ao30 t1173.length co30, .int .i64 t1154] 49 (0, 0)) (by (with_reducible repeat (first | refine kQN ?_ _ | refine kQD ?_ | refine kQA ?_ _)); exact BK1155.out) hb); have n6_ := Aq.mk (kQB (g := gb1163) (o := .cells #[.int .i64 t1156, .int .i64 t1157, .slice Ao37 t1158.length co37, .int .i64 t1161] 49 (0, 0)) (by (with_reducible repeat (first | refine kQN ?_ _ | refine kQD ?_ | refine kQA ?_ _)); exact BK1163.out) hb); have n7_ := Aq.mk (bQT (by repeat (first | (with_reducible first | exact HB.out | apply bQA | apply bQN | apply bQ1 | refine bQS ?_ GE1133.out | refine bQS ?_ GE1148.out | refine bQS ?_ GE1155.out | refine bQS ?_ GE1163.out) | exact HB.out)) hb); clear HO_1149002; clear HO_1156002; clear HO_1164002; clear BK1133; clear BK1148; clear BK1155; clear BK1163; clear HB; have HO_1149002 := n0_; have HO_1156002 := n1_; have HO_1164002 := n2_; have BK1133 := n3_; have BK1148 := n4_; have BK1155 := n5_; have BK1163 := n6_; have HB := n7_; clear n0_ n1_ n2_ n3_ n4_ n5_ n6_ n7_; (try clear hb); (try clear hb2); (try clear hk); (try clear hi); have hnb112 := NB1133_1148.out; have hnc112 := NB1148_1133.out; have hnb113 := NB1133_1155.out; have hnc113 := NB1155_1133.out; have hcz114_0 : w111.cell? ⟨gb1133, 0, none⟩ = some (.int .i64 a0_0) := (kQC BK1133.out 0).trans rfl; have hcz114_1 : w111.cell? ⟨gb1133, 1, none⟩ = some (.int .i64 a0_1) := (kQC BK1133.out 1).trans rfl; have hcz114_2 : w111.cell? ⟨gb1133, 2, none⟩ = some (.slice A0_2 l0_2.length c0_2) := (kQC BK1133.out 2).trans rfl; have hcz114_3 : w111.cell? ⟨gb1133, 3, none⟩ = some (.int .i64 a0_3) := (kQC BK1133.out 3).trans rfl; have hfz114_0 := kQF BK1133.out 0; have hfz114_1 := kQF BK1133.out 1; have hfz114_2 := kQF BK1133.out 2; have hfz114_3 := kQF BK1133.out 3) | ((with_reducible refine gQc (f := 37) rfl ?_); refine goesL_ (some 79) rfl rfl Try.func37 (by kernel_rfl) rfl #[.agg #[.int .i64 a0_0, .int .i64 a0_1, .slice A0_2 l0_2.length c0_2, .int .i64 a0_3]] rfl (by (try simp only [List.map_toArray, List.map_cons, List.map_nil]); first | done | rfl | (simp only [List.length_drop, List.length_take]; rfl)) ?_; (with_reducible refine (laws_toGabidulin.calls kj60 a0_0 a0_1 _ _ l0_2 a0_3 t1178 t1179 t1180 t1183 _ ?side1 ?side2 A102.out).mono ?_); (case side1 => repeat (first | exact (Kd.C_below HR0_2.out HB.out) | (with_reducible refine Kd.CqA ?_ _) | (with_reducible refine Kd.CqN ?_ _) | (with_reducible refine Kd.CqD ?_))); (case side2 => exact HC0_2.out); rintro e w115 ⟨v1181, rfl, ho0, hb⟩; refine ⟨_, rfl, ?_⟩; have n0_ := Aq.mk (Kd.R_elder' (by (with_reducible repeat (first | apply Kd.RqA | apply Kd.RqN | apply Kd.RqD)); exact HO_1149002.out) (Kd.R_base ho0) hb); have n1_ := Aq.mk (Kd.R_elder' (by (with_reducible repeat (first | apply Kd.RqA | apply Kd.RqN | apply Kd.RqD)); exact HO_1156002.out) (Kd.R_base ho0) hb); have n2_ := Aq.mk (Kd.R_elder' (by (with_reducible repeat (first | apply Kd.RqA | apply Kd.RqN | apply Kd.RqD)); exact HO_1164002.out) (Kd.R_base ho0) hb); have n3_ := Aq.mk (Kd.R_lower (Kd.R_new' (Kd.R_new' (Kd.R_new' ho0 (Kd.R_lt (by (with_reducible repeat (first | apply Kd.RqA | apply Kd.RqN | apply Kd.RqD)); exact HO_1149002.out))) (Kd.R_lt (by (with_reducible repeat (first | apply Kd.RqA | apply Kd.RqN | apply Kd.RqD)); exact HO_1156002.out))) (Kd.R_lt (by (with_reducible repeat (first | apply Kd.RqA | apply Kd.RqN | apply Kd.RqD)); exact HO_1164002.out))) (bQZ (by repeat (first | (with_reducible first | exact HB.out | apply bQA | apply bQN | apply bQ1 | refine bQS ?_ GE1133.out | refine bQS ?_ GE1148.out | refine bQS ?_ GE1155.out | refine bQS ?_ GE1163.out) | exact HB.out)))); have n4_ := Aq.mk (kQB (g := gb1133) (o := .cells #[.int .i64 a0_0, .int .i64 a0_1, .slice A0_2 l0_2.length c0_2, .int .i64 a0_3] 45 (0, 0)) (by (with_reducible repeat (first | refine kQN ?_ _ | refine kQD ?_ | refine kQA ?_ _)); exact BK1133.out) hb); have n5_ := Aq.mk (kQB (g := gb1148) (o := .cells #[.int .i64 t1141, .int .i64 t1142, .slice Ao23 t1143.length co23, .int .i64 t1146] 49 (0, 0)) (by (with_reducible repeat (first | refine kQN ?_ _ | refine kQD ?_ | refine kQA ?_ _)); exact BK1148.out) hb); have n6_ := Aq.mk (kQB (g := gb1155) (o := .cells #[.int .i64 t1149, .int .i64 t1150, .slice Ao30 t1173.length co30, .int .i64 t1154] 49 (0, 0)) (by (with_reducible repeat (first | refine kQN ?_ _ | refine kQD ?_ | refine kQA ?_ _)); exact BK1155.out) hb); have n7_ := Aq.mk (kQB (g := gb1163) (o := .cells #[.int .i64 t1156, .int .i64 t1157, .slice Ao37 t1158.length co37, .int .i64 t1161] 49 (0, 0)) (by (with_reducible repeat (first | refine kQN ?_ _ | refine kQD ?_ | refine kQA ?_ _)); exact BK1163.out) hb); have n8_ := Aq.mk (bQT (by repeat (first | (with_reducible first | exact HB.out | apply bQA | apply bQN | apply bQ1 | refine bQS ?_ GE1133.out | refine bQS ?_ GE1148.out | refine bQS ?_ GE1155.out | refine bQS ?_ GE1163.out) | exact HB.out)) hb); clear HO_1149002; clear HO_1156002; clear HO_1164002; clear BK1133; clear BK1148; clear BK1155; clear BK1163; clear HB; have HO_1149002 := n0_; have HO_1156002 := n1_; have HO_1164002 := n2_; have HO1182 := n3_; have BK1133 := n4_; have BK1148 := n5_; have BK1155 := n6_; have BK1163 := n7_; have HB := n8_; clear n0_ n1_ n2_ n3_ n4_ n5_ n6_ n7_ n8_; (try clear hb); (try clear hb2); (try clear hk); (try clear hi); (try clear ho0); obtain ⟨Ao116, co116, eo116⟩ := Kd.R_slice HO1182.out; subst eo116) | ((with_reducible refine gQc (f := 60) rfl ?_); refine goesL_ (some 81) rfl rfl Try.func60 (by kernel_rfl) rfl #[.agg #[.int .i64 t1178, .int .i64 t1179, .slice Ao116 t1180.length co116, .int .i64 t1183], .int .i64 a1] rfl (by (try simp only [List.map_toArray, List.map_cons, List.map_nil]); first | done | rfl | (simp only [List.length_drop, List.length_take]; rfl)) ?_; (with_reducible refine (impl_SquareGabidulin.calls kj60 t1178 t1179 _ _ t1180 t1183 a1 t1184 t1185 t1186 t1189 t1190 _ ?side1 ?side2 A103.out).mono ?_); (case side1 => repeat (first | exact (Kd.R_reads' HO1182.out).2.2 | (with_reducible refine Kd.CqA ?_ _) | (with_reducible refine Kd.CqN ?_ _) | (with_reducible refine Kd.CqD ?_))); (case side2 => exact (Kd.R_reads' HO1182.out).2.1); rintro e w117 ⟨v1187, rfl, ho0, hb⟩; refine ⟨_, rfl, ?_⟩; have n0_ := Aq.mk (Kd.R_elder' (by (with_reducible repeat (first | apply Kd.RqA | apply Kd.RqN | apply Kd.RqD)); exact HO_1149002.out) (Kd.R_base ho0) hb); have n1_ := Aq.mk (Kd.R_elder' (by (with_reducible repeat (first | apply Kd.RqA | apply Kd.RqN | apply Kd.RqD)); exact HO_1156002.out) (Kd.R_base ho0) hb); have n2_ := Aq.mk (Kd.R_elder' (by (with_reducible repeat (first | apply Kd.RqA | apply Kd.RqN | apply Kd.RqD)); exact HO_1164002.out) (Kd.R_base ho0) hb); have n3_ := Aq.mk (Kd.R_elder' (by (with_reducible repeat (first | apply Kd.RqA | apply Kd.RqN | apply Kd.RqD)); exact HO1182.out) (Kd.R_base ho0) hb); have n4_ := Aq.mk (Kd.R_lower (Kd.R_new' (Kd.R_new' (Kd.R_new' (Kd.R_new' ho0 (Kd.R_lt (by (with_reducible repeat (first | apply Kd.RqA | apply Kd.RqN | apply Kd.RqD)); exact HO_1149002.out))) (Kd.R_lt (by (with_reducible repeat (first | apply Kd.RqA | apply Kd.RqN | apply Kd.RqD)); exact HO_1156002.out))) (Kd.R_lt (by (with_reducible repeat (first | apply Kd.RqA | apply Kd.RqN | apply Kd.RqD)); exact HO_1164002.out))) (Kd.R_lt (by (with_reducible repeat (first | apply Kd.RqA | apply Kd.RqN | apply Kd.RqD)); exact HO1182.out))) (bQZ (by repeat (first | (with_reducible first | exact HB.out | apply bQA | apply bQN | apply bQ1 | refine bQS ?_ GE1133.out | refine bQS ?_ GE1148.out | refine bQS ?_ GE1155.out | refine bQS ?_ GE1163.out) | exact HB.out)))); have n5_ := Aq.mk (kQB (g := gb1133) (o := .cells #[.int .i64 a0_0, .int .i64 a0_1, .slice A0_2 l0_2.length c0_2, .int .i64 a0_3] 45 (0, 0)) (by (with_reducible repeat (first | refine kQN ?_ _ | refine kQD ?_ | refine kQA ?_ _)); exact BK1133.out) hb); have n6_ := Aq.mk (kQB (g := gb1148) (o := .cells #[.int .i64 t1141, .int .i64 t1142, .slice Ao23 t1143.length co23, .int .i64 t1146] 49 (0, 0)) (by (with_reducible repeat (first | refine kQN ?_ _ | refine kQD ?_ | refine kQA ?_ _)); exact BK1148.out) hb); have n7_ := Aq.mk (kQB (g := gb1155) (o := .cells #[.int .i64 t1149, .int .i64 t1150, .slice Ao30 t1173.length co30, .int .i64 t1154] 49 (0, 0)) (by (with_reducible repeat (first | refine kQN ?_ _ | refine kQD ?_ | refine kQA ?_ _)); exact BK1155.out) hb); have n8_ := Aq.mk (kQB (g := gb1163) (o := .cells #[.int .i64 t1156, .int .i64 t1157, .slice Ao37 t1158.length co37, .int .i64 t1161] 49 (0, 0)) (by (with_reducible repeat (first | refine kQN ?_ _ | refine kQD ?_ | refine kQA ?_ _)); exact BK1163.out) hb); have n9_ := Aq.mk (bQT (by repeat (first | (with_reducible first | exact HB.out | apply bQA | apply bQN | apply bQ1 | refine bQS ?_ GE1133.out | refine bQS ?_ GE1148.out | refine bQS ?_ GE1155.out | refine bQS ?_ GE1163.out) | exact HB.out)) hb); clear HO_1149002; clear HO_1156002; clear HO_1164002; clear HO1182; clear BK1133; clear BK1148; clear BK1155; clear BK1163; clear HB; have HO_1149002 := n0_; have HO_1156002 := n1_; have HO_1164002 := n2_; have HO1182 := n3_; have HO1188 := n4_; have BK1133 := n5_; have BK1148 := n6_; have BK1155 := n7_; have BK1163 := n8_; have HB := n9_; clear n0_ n1_ n2_ n3_ n4_ n5_ n6_ n7_ n8_ n9_; (try clear hb); (try clear hb2); (try clear hk); (try clear hi); (try clear ho0)) | ((with_reducible refine gQd (N := 14) rfl ?_); refine xQe ?hg (N := 14) ?hd (cs := #[.int .i64 0, .int .i64 0, .slice none 0 0, .int .i64 0]) (t := 49) ?hr ?_; (case hd => rfl); (case hg => rfl); (case hr => first | (go_simp; done) | (go_simp; rfl)); intro gb1191 hg w118 hbox hb; have n0_ := Aq.mk (Kd.R_below (by (with_reducible repeat (first | apply Kd.RqA | apply Kd.RqN | apply Kd.RqD)); exact HO_1149002.out) hb); have n1_ := Aq.mk (Kd.R_below (by (with_reducible repeat (first | apply Kd.RqA | apply Kd.RqN | apply Kd.RqD)); exact HO_1156002.out) hb); have n2_ := Aq.mk (Kd.R_below (by (with_reducible repeat (first | apply Kd.RqA | apply Kd.RqN | apply Kd.RqD)); exact HO_1164002.out) hb); have n3_ := Aq.mk (Kd.R_below (by (with_reducible repeat (first | apply Kd.RqA | apply Kd.RqN | apply Kd.RqD)); exact HO1182.out) hb); have n4_ := Aq.mk (Kd.R_below (by (with_reducible repeat (first | apply Kd.RqA | apply Kd.RqN | apply Kd.RqD)); exact HO1188.out) hb); have n5_ := Aq.mk (kQB (g := gb1133) (o := .cells #[.int .i64 a0_0, .int .i64 a0_1, .slice A0_2 l0_2.length c0_2, .int .i64 a0_3] 45 (0, 0)) (by (with_reducible repeat (first | refine kQN ?_ _ | refine kQD ?_ | refine kQA ?_ _)); exact BK1133.out) hb); have n6_ := Aq.mk (kQB (g := gb1148) (o := .cells #[.int .i64 t1141, .int .i64 t1142, .slice Ao23 t1143.length co23, .int .i64 t1146] 49 (0, 0)) (by (with_reducible repeat (first | refine kQN ?_ _ | refine kQD ?_ | refine kQA ?_ _)); exact BK1148.out) hb); have n7_ := Aq.mk (kQB (g := gb1155) (o := .cells #[.int .i64 t1149, .int .i64 t1150, .slice Ao30 t1173.length co30, .int .i64 t1154] 49 (0, 0)) (by (with_reducible repeat (first | refine kQN ?_ _ | refine kQD ?_ | refine kQA ?_ _)); exact BK1155.out) hb); have n8_ := Aq.mk (kQB (g := gb1163) (o := .cells #[.int .i64 t1156, .int .i64 t1157, .slice Ao37 t1158.length co37, .int .i64 t1161] 49 (0, 0)) (by (with_reducible repeat (first | refine kQN ?_ _ | refine kQD ?_ | refine kQA ?_ _)); exact BK1163.out) hb); have n9_ := Aq.mk (bQT (by repeat (first | (with_reducible first | exact HB.out | apply bQA | apply bQN | apply bQ1 | refine bQS ?_ GE1133.out | refine bQS ?_ GE1148.out | refine bQS ?_ GE1155.out | refine bQS ?_ GE1163.out) | exact HB.out)) hb); have n10_ := Aq.mk (hbox); have n11_ := Aq.mk ((by rw [hg]; exact (bQZ (by repeat (first | (with_reducible first | exact HB.out | apply bQA | apply bQN | apply bQ1 | refine bQS ?_ GE1133.out | refine bQS ?_ GE1148.out | refine bQS ?_ GE1155.out | refine bQS ?_ GE1163.out) | exact HB.out))) : w.heap.size ≤ gb1191)); have n12_ := Aq.mk ((by rw [hg]; exact (bQZ (by repeat (first | (with_reducible first | exact HB.out | apply bQA | apply bQN | apply bQ1 | refine bQS ?_ GE1133.out | refine bQS ?_ GE1148.out | refine bQS ?_ GE1155.out | refine bQS ?_ GE1163.out) | exact HB.out))) : w.heap.size ≤ gb1191)); have n13_ := Aq.mk ((by rw [hg]; exact Nat.ne_of_lt (blk_lt (g := gb1133) (o := .cells #[.int .i64 a0_0, .int .i64 a0_1, .slice A0_2 l0_2.length c0_2, .int .i64 a0_3] 45 (0, 0)) (by (with_reducible repeat (first | refine kQN ?_ _ | refine kQD ?_ | refine kQA ?_ _)); exact BK1133.out)) : gb1133 ≠ gb1191)); have n14_ := Aq.mk ((by rw [hg]; exact Nat.ne_of_gt (blk_lt (g := gb1133) (o := .cells #[.int .i64 a0_0, .int .i64 a0_1, .slice A0_2 l0_2.length c0_2, .int .i64 a0_3] 45 (0, 0)) (by (with_reducible repeat (first | refine kQN ?_ _ | refine kQD ?_ | refine kQA ?_ _)); exact BK1133.out)) : gb1191 ≠ gb1133)); have n15_ := Aq.mk ((by rw [hg]; exact Nat.ne_of_lt (blk_lt (g := gb1148) (o := .cells #[.int .i64 t1141, .int .i64 t1142, .slice Ao23 t1143.length co23, .int .i64 t1146] 49 (0, 0)) (by (with_reducible repeat (first | refine kQN ?_ _ | refine kQD ?_ | refine kQA ?_ _)); exact BK1148.out)) : gb1148 ≠ gb1191)); have n16_ := Aq.mk ((by rw [hg]; exact Nat.ne_of_gt (blk_lt (g := gb1148) (o := .cells #[.int .i64 t1141, .int .i64 t1142, .slice Ao23 t1143.length co23, .int .i64 t1146] 49 (0, 0)) (by (with_reducible repeat (first | refine kQN ?_ _ | refine kQD ?_ | refine kQA ?_ _)); exact BK1148.out)) : gb1191 ≠ gb1148)); have n17_ := Aq.mk ((by rw [hg]; exact Nat.ne_of_lt (blk_lt (g := gb1155) (o := .cells #[.int .i64 t1149, .int .i64 t1150, .slice Ao30 t1173.length co30, .int .i64 t1154] 49 (0, 0)) (by (with_reducible repeat (first | refine kQN ?_ _ | refine kQD ?_ | refine kQA ?_ _)); exact BK1155.out)) : gb1155 ≠ gb1191)); have n18_ := Aq.mk ((by rw [hg]; exact Nat.ne_of_gt (blk_lt (g := gb1155) (o := .cells #[.int .i64 t1149, .int .i64 t1150, .slice Ao30 t1173.length co30, .int .i64 t1154] 49 (0, 0)) (by (with_reducible repeat (first | refine kQN ?_ _ | refine kQD ?_ | refine kQA ?_ _)); exact BK1155.out)) : gb1191 ≠ gb1155)); have n19_ := Aq.mk ((by rw [hg]; exact Nat.ne_of_lt (blk_lt (g := gb1163) (o := .cells #[.int .i64 t1156, .int .i64 t1157, .slice Ao37 t1158.length co37, .int .i64 t1161] 49 (0, 0)) (by (with_reducible repeat (first | refine kQN ?_ _ | refine kQD ?_ | refine kQA ?_ _)); exact BK1163.out)) : gb1163 ≠ gb1191)); have n20_ := Aq.mk ((by rw [hg]; exact Nat.ne_of_gt (blk_lt (g := gb1163) (o := .cells #[.int .i64 t1156, .int .i64 t1157, .slice Ao37 t1158.length co37, .int .i64 t1161] 49 (0, 0)) (by (with_reducible repeat (first | refine kQN ?_ _ | refine kQD ?_ | refine kQA ?_ _)); exact BK1163.out)) : gb1191 ≠ gb1163)); clear HO_1149002; clear HO_1156002; clear HO_1164002; clear HO1182; clear HO1188; clear BK1133; clear BK1148; clear BK1155; clear BK1163; clear HB; have HO_1149002 := n0_; have HO_1156002 := n1_; have HO_1164002 := n2_; have HO1182 := n3_; have HO1188 := n4_; have BK1133 := n5_; have BK1148 := n6_; have BK1155 := n7_; have BK1163 := n8_; have HB := n9_; have BK1191 := n10_; have GW1191 := n11_; have GE1191 := n12_; have NB1133_1191 := n13_; have NB1191_1133 := n14_; have NB1148_1191 := n15_; have NB1191_1148 := n16_; have NB1155_1191 := n17_; have NB1191_1155 := n18_; have NB1163_1191 := n19_; have NB1191_1163 := n20_; clear n0_ n1_ n2_ n3_ n4_ n5_ n6_ n7_ n8_ n9_ n10_ n11_ n12_ n13_ n14_ n15_ n16_ n17_ n18_ n19_ n20_; clear hb hbox hg; have hnb119 := NB1191_1133.out; have hnc119 := NB1133_1191.out; have hnb120 := NB1191_1148.out; have hnc120 := NB1148_1191.out; have hnb121 := NB1191_1155.out; have hnc121 := NB1155_1191.out; have hnb122 := NB1191_1163.out; have hnc122 := NB1163_1191.out; have hcz123_0 : w118.cell? ⟨gb1191, 0, none⟩ = some (.int .i64 0) := (kQC BK1191.out 0).trans rfl; have hcz123_1 : w118.cell? ⟨gb1191, 1, none⟩ = some (.int .i64 0) := (kQC BK1191.out 1).trans rfl; have hcz123_2 : w118.cell? ⟨gb1191, 2, none⟩ = some (.slice none 0 0) := (kQC BK1191.out 2).trans rfl; have hcz123_3 : w118.cell? ⟨gb1191, 3, none⟩ = some (.int .i64 0) := (kQC BK1191.out 3).trans rfl; have hfz123_0 := kQF BK1191.out 0; have hfz123_1 := kQF BK1191.out 1; have hfz123_2 := kQF BK1191.out 2; have hfz123_3 := kQF BK1191.out 3; obtain ⟨Ao124, co124, eo124⟩ := Kd.R_slice HO1188.out; subst eo124))
           (try simp only [Act.put, qSa, qSb, qSc])
           go_cut [92] (fun v92 wc => ∃ (kq : Nat) (x92_103 : Bool), v92 = .bool x92_103 ∧ Aq (laws_FnExactSquareGabidulin.j2 kq t1175 x92_103 t1156 t1157 t1176 t1161 = some r) ∧ Aq (kq ≤ kj60) ∧ Aq (Kd.R (Kd.int .i64) 2 wc w.heap.size (fun k_ => some k_ ≠ ((.slice Ao30 t1173.length co30) : Value).ownBlock ∧ some k_ ≠ ((.slice Ao37 t1158.length co37) : Value).ownBlock ∧ some k_ ≠ ((.slice Ao124 t1186.length co124) : Value).ownBlock) (.slice Ao23 t1143.length co23) t1143) ∧ Aq (Kd.R (Kd.int .i64) 2 wc w.heap.size (fun k_ => some k_ ≠ ((.slice Ao23 t1143.length co23) : Value).ownBlock ∧ some k_ ≠ ((.slice Ao37 t1158.length co37) : Value).ownBlock ∧ some k_ ≠ ((.slice Ao124 t1186.length co124) : Value).ownBlock) (.slice Ao30 t1173.length co30) t1173) ∧ Aq (Kd.R (Kd.int .i64) 2 wc w.heap.size (fun k_ => some k_ ≠ ((.slice Ao23 t1143.length co23) : Value).ownBlock ∧ some k_ ≠ ((.slice Ao30 t1173.length co30) : Value).ownBlock ∧ some k_ ≠ ((.slice Ao124 t1186.length co124) : Value).ownBlock) (.slice Ao37 t1158.length co37) t1176) ∧ Aq (Kd.R (Kd.int .i64) 2 wc w.heap.size (fun k_ => some k_ ≠ ((.slice Ao23 t1143.length co23) : Value).ownBlock ∧ some k_ ≠ ((.slice Ao30 t1173.length co30) : Value).ownBlock ∧ some k_ ≠ ((.slice Ao37 t1158.length co37) : Value).ownBlock) (.slice Ao124 t1186.length co124) t1186) ∧ Aq (wc.heap[gb1133]? = some (.cells #[.int .i64 a0_0, .int .i64 a0_1, (.slice A0_2 l0_2.length c0_2), .int .i64 a0_3] 45 (0, 0))) ∧ Aq (wc.heap[gb1148]? = some (.cells #[.int .i64 t1141, .int .i64 t1142, (.slice Ao23 t1143.length co23), .int .i64 t1146] 49 (0, 0))) ∧ Aq (wc.heap[gb1155]? = some (.cells #[.int .i64 t1149, .int .i64 t1150, (.slice Ao30 t1173.length co30), .int .i64 t1154] 49 (0, 0))) ∧ Aq (wc.heap[gb1163]? = some (.cells #[.int .i64 t1156, .int .i64 t1157, (.slice Ao37 t1158.length co37), .int .i64 t1161] 49 (0, 0))) ∧ Aq (wc.heap[gb1191]? = some (.cells #[.int .i64 t1184, .int .i64 t1185, (.slice Ao124 t1186.length co124), .int .i64 t1189] 49 (0, 0))) ∧ Aq (Below w.heap.size w wc))
           case first =>
            have H := HC104.out
            clear HC104
            replace H := Option.bind_eq_some_iff.mp H
            obtain ⟨t1192, A1250, H⟩ := H
            replace H : (if t1192 = true then (laws_FnExactSquareGabidulin.j2 kj60 t1175 (t1190 != t1147) t1156 t1157 t1176 t1161) else (laws_FnExactSquareGabidulin.j2 kj60 t1175 true t1156 t1157 t1176 t1161)) = some r := H
            have A125 := Aq.mk A1250
            clear A1250
            by_cases c126 : t1192 = true
            ·subst c126
             have H1 : (laws_FnExactSquareGabidulin.j2 kj60 t1175 (t1190 != t1147) t1156 t1157 t1176 t1161) = some r := by rw [if_pos rfl] at H; exact H
             clear H
             have H := H1
             clear H1
             have H' := Aq.mk H
             clear H
             have hnb127 := NB1191_1133.out
             have hnc127 := NB1133_1191.out
             have hnb128 := NB1191_1148.out
             have hnc128 := NB1148_1191.out
             have hnb129 := NB1191_1155.out
             have hnc129 := NB1155_1191.out
             have hnb130 := NB1191_1163.out
             have hnc130 := NB1163_1191.out
             have hcz131_0 : w118.cell? ⟨gb1191, 0, none⟩ = some (.int .i64 0) := (kQC BK1191.out 0).trans rfl
             have hcz131_1 : w118.cell? ⟨gb1191, 1, none⟩ = some (.int .i64 0) := (kQC BK1191.out 1).trans rfl
             have hcz131_2 : w118.cell? ⟨gb1191, 2, none⟩ = some (.slice none 0 0) := (kQC BK1191.out 2).trans rfl
             have hcz131_3 : w118.cell? ⟨gb1191, 3, none⟩ = some (.int .i64 0) := (kQC BK1191.out 3).trans rfl
             have hfz131_0 := kQF BK1191.out 0
             have hfz131_1 := kQF BK1191.out 1
             have hfz131_2 := kQF BK1191.out 2
             have hfz131_3 := kQF BK1191.out 3
             have hnb132 := NB1148_1133.out
             have hnc132 := NB1133_1148.out
             have hnb133 := NB1148_1155.out
             have hnc133 := NB1155_1148.out
             have hnb134 := NB1148_1163.out
             have hnc134 := NB1163_1148.out
             have hcz135_0 : w118.cell? ⟨gb1148, 0, none⟩ = some (.int .i64 t1141) := (kQC BK1148.out 0).trans rfl
             have hcz135_1 : w118.cell? ⟨gb1148, 1, none⟩ = some (.int .i64 t1142) := (kQC BK1148.out 1).trans rfl
             have hcz135_2 : w118.cell? ⟨gb1148, 2, none⟩ = some (.slice Ao23 t1143.length co23) := (kQC BK1148.out 2).trans rfl
             have hcz135_3 : w118.cell? ⟨gb1148, 3, none⟩ = some (.int .i64 t1146) := (kQC BK1148.out 3).trans rfl
             have hfz135_0 := kQF BK1148.out 0
             have hfz135_1 := kQF BK1148.out 1
             have hfz135_2 := kQF BK1148.out 2
             have hfz135_3 := kQF BK1148.out 3
             go_wp2_with (first | ((with_reducible refine gQc (f := 39) rfl ?_); refine goesL_ (some 86) rfl rfl Try.func39 (by kernel_rfl) rfl #[.agg #[.int .i64 t1184, .int .i64 t1185, .slice Ao124 t1186.length co124, .int .i64 t1189], .agg #[.int .i64 t1141, .int .i64 t1142, .slice Ao23 t1143.length co23, .int .i64 t1146]] rfl (by (try simp only [List.map_toArray, List.map_cons, List.map_nil]); first | done | rfl | (simp only [List.length_drop, List.length_take]; rfl)) ?_; (with_reducible refine (laws_eqGabidulin.calls kj60 t1184 t1185 _ _ t1186 t1189 t1141 t1142 _ _ t1143 t1146 true _ ?side1 ?side2 ?side3 ?side4 A125.out).mono ?_); (case side1 => refine (Kd.R_reads' (e := 2) (base := w.heap.size) (ok := fun k_ => ((((True ∧ some k_ ≠ (.slice Ao23 t1143.length co23 : Value).ownBlock) ∧ some k_ ≠ (.slice Ao30 t1173.length co30 : Value).ownBlock) ∧ some k_ ≠ (.slice Ao37 t1158.length co37 : Value).ownBlock) ∧ some k_ ≠ (.slice Ao116 t1180.length co116 : Value).ownBlock)) (n := t1186.length) (c := co124) ?_).2.2; exact (by (with_reducible repeat (first | apply Kd.RqA | apply Kd.RqN | apply Kd.RqD)); exact (Kd.R_mono (Kd.R_far (p := ⟨gb1191, 3, none⟩) (Kd.R_far (p := ⟨gb1191, 2, none⟩) (Kd.R_far (p := ⟨gb1191, 1, none⟩) (Kd.R_far (p := ⟨gb1191, 0, none⟩) (Kd.R_types HO1188.out BK1191.out (by decide)) (fun _ hk => hk.2) (.int .i64 t1184)) (fun _ hk => hk.2) (.int .i64 t1185)) (fun _ hk => hk.2) (.slice Ao124 t1186.length co124)) (fun _ hk => hk.2) (.int .i64 t1189)) (fun _ h_ => h_.1)))); (case side2 => exact (Kd.R_reads' HO1188.out).2.1); (case side3 => refine (Kd.R_reads' (e := 2) (base := w.heap.size) (ok := fun k_ => (((some k_ ≠ (.slice Ao30 t1173.length co30 : Value).ownBlock ∧ some k_ ≠ (.slice Ao37 t1158.length co37 : Value).ownBlock) ∧ some k_ ≠ (.slice Ao116 t1180.length co116 : Value).ownBlock) ∧ some k_ ≠ (.slice Ao124 t1186.length co124 : Value).ownBlock)) (n := t1143.length) (c := co23) ?_).2.2; exact (by (with_reducible repeat (first | apply Kd.RqA | apply Kd.RqN | apply Kd.RqD)); exact (Kd.R_mono (Kd.R_far (p := ⟨gb1191, 3, none⟩) (Kd.R_far (p := ⟨gb1191, 2, none⟩) (Kd.R_far (p := ⟨gb1191, 1, none⟩) (Kd.R_far (p := ⟨gb1191, 0, none⟩) (Kd.R_types HO_1149002.out BK1191.out (by decide)) (fun _ hk => hk.2) (.int .i64 t1184)) (fun _ hk => hk.2) (.int .i64 t1185)) (fun _ hk => hk.2) (.slice Ao124 t1186.length co124)) (fun _ hk => hk.2) (.int .i64 t1189)) (fun _ h_ => h_.1)))); (case side4 => exact (Kd.R_reads' HO_1149002.out).2.1); rintro e w136 ⟨rfl, hb⟩; refine ⟨_, rfl, ?_⟩; have n0_ := Aq.mk (Kd.R_below (by (with_reducible repeat (first | apply Kd.RqA | apply Kd.RqN | apply Kd.RqD)); exact (Kd.R_mono (Kd.R_far (p := ⟨gb1191, 3, none⟩) (Kd.R_far (p := ⟨gb1191, 2, none⟩) (Kd.R_far (p := ⟨gb1191, 1, none⟩) (Kd.R_far (p := ⟨gb1191, 0, none⟩) (Kd.R_types HO_1149002.out BK1191.out (by decide)) (fun _ hk => hk.2) (.int .i64 t1184)) (fun _ hk => hk.2) (.int .i64 t1185)) (fun _ hk => hk.2) (.slice Ao124 t1186.length co124)) (fun _ hk => hk.2) (.int .i64 t1189)) (fun _ h_ => h_.1))) hb); have n1_ := Aq.mk (Kd.R_below (by (with_reducible repeat (first | apply Kd.RqA | apply Kd.RqN | apply Kd.RqD)); exact (Kd.R_mono (Kd.R_far (p := ⟨gb1191, 3, none⟩) (Kd.R_far (p := ⟨gb1191, 2, none⟩) (Kd.R_far (p := ⟨gb1191, 1, none⟩) (Kd.R_far (p := ⟨gb1191, 0, none⟩) (Kd.R_types HO_1156002.out BK1191.out (by decide)) (fun _ hk => hk.2) (.int .i64 t1184)) (fun _ hk => hk.2) (.int .i64 t1185)) (fun _ hk => hk.2) (.slice Ao124 t1186.length co124)) (fun _ hk => hk.2) (.int .i64 t1189)) (fun _ h_ => h_.1))) hb); have n2_ := Aq.mk (Kd.R_below (by (with_reducible repeat (first | apply Kd.RqA | apply Kd.RqN | apply Kd.RqD)); exact (Kd.R_mono (Kd.R_far (p := ⟨gb1191, 3, none⟩) (Kd.R_far (p := ⟨gb1191, 2, none⟩) (Kd.R_far (p := ⟨gb1191, 1, none⟩) (Kd.R_far (p := ⟨gb1191, 0, none⟩) (Kd.R_types HO_1164002.out BK1191.out (by decide)) (fun _ hk => hk.2) (.int .i64 t1184)) (fun _ hk => hk.2) (.int .i64 t1185)) (fun _ hk => hk.2) (.slice Ao124 t1186.length co124)) (fun _ hk => hk.2) (.int .i64 t1189)) (fun _ h_ => h_.1))) hb); have n3_ := Aq.mk (Kd.R_below (by (with_reducible repeat (first | apply Kd.RqA | apply Kd.RqN | apply Kd.RqD)); exact (Kd.R_mono (Kd.R_far (p := ⟨gb1191, 3, none⟩) (Kd.R_far (p := ⟨gb1191, 2, none⟩) (Kd.R_far (p := ⟨gb1191, 1, none⟩) (Kd.R_far (p := ⟨gb1191, 0, none⟩) (Kd.R_types HO1182.out BK1191.out (by decide)) (fun _ hk => hk.2) (.int .i64 t1184)) (fun _ hk => hk.2) (.int .i64 t1185)) (fun _ hk => hk.2) (.slice Ao124 t1186.length co124)) (fun _ hk => hk.2) (.int .i64 t1189)) (fun _ h_ => h_.1))) hb); have n4_ := Aq.mk (Kd.R_below (by (with_reducible repeat (first | apply Kd.RqA | apply Kd.RqN | apply Kd.RqD)); exact (Kd.R_mono (Kd.R_far (p := ⟨gb1191, 3, none⟩) (Kd.R_far (p := ⟨gb1191, 2, none⟩) (Kd.R_far (p := ⟨gb1191, 1, none⟩) (Kd.R_far (p := ⟨gb1191, 0, none⟩) (Kd.R_types HO1188.out BK1191.out (by decide)) (fun _ hk => hk.2) (.int .i64 t1184)) (fun _ hk => hk.2) (.int .i64 t1185)) (fun _ hk => hk.2) (.slice Ao124 t1186.length co124)) (fun _ hk => hk.2) (.int .i64 t1189)) (fun _ h_ => h_.1))) hb); have n5_ := Aq.mk (kQB (g := gb1133) (o := .cells #[.int .i64 a0_0, .int .i64 a0_1, .slice A0_2 l0_2.length c0_2, .int .i64 a0_3] 45 (0, 0)) (by (with_reducible repeat (first | refine kQN ?_ _ | refine kQD ?_ | refine kQA ?_ _)); refine kQR ?_ NB1133_1191.out _; (with_reducible repeat (first | refine kQN ?_ _ | refine kQD ?_ | refine kQA ?_ _)); refine kQR ?_ NB1133_1191.out _; (with_reducible repeat (first | refine kQN ?_ _ | refine kQD ?_ | refine kQA ?_ _)); refine kQR ?_ NB1133_1191.out _; (with_reducible repeat (first | refine kQN ?_ _ | refine kQD ?_ | refine kQA ?_ _)); refine kQR ?_ NB1133_1191.out _; (with_reducible repeat (first | refine kQN ?_ _ | refine kQD ?_ | refine kQA ?_ _)); exact BK1133.out) hb); have n6_ := Aq.mk (kQB (g := gb1148) (o := .cells #[.int .i64 t1141, .int .i64 t1142, .slice Ao23 t1143.length co23, .int .i64 t1146] 49 (0, 0)) (by (with_reducible repeat (first | refine kQN ?_ _ | refine kQD ?_ | refine kQA ?_ _)); refine kQR ?_ NB1148_1191.out _; (with_reducible repeat (first | refine kQN ?_ _ | refine kQD ?_ | refine kQA ?_ _)); refine kQR ?_ NB1148_1191.out _; (with_reducible repeat (first | refine kQN ?_ _ | refine kQD ?_ | refine kQA ?_ _)); refine kQR ?_ NB1148_1191.out _; (with_reducible repeat (first | refine kQN ?_ _ | refine kQD ?_ | refine kQA ?_ _)); refine kQR ?_ NB1148_1191.out _; (with_reducible repeat (first | refine kQN ?_ _ | refine kQD ?_ | refine kQA ?_ _)); exact BK1148.out) hb); have n7_ := Aq.mk (kQB (g := gb1155) (o := .cells #[.int .i64 t1149, .int .i64 t1150, .slice Ao30 t1173.length co30, .int .i64 t1154] 49 (0, 0)) (by (with_reducible repeat (first | refine kQN ?_ _ | refine kQD ?_ | refine kQA ?_ _)); refine kQR ?_ NB1155_1191.out _; (with_reducible repeat (first | refine kQN ?_ _ | refine kQD ?_ | refine kQA ?_ _)); refine kQR ?_ NB1155_1191.out _; (with_reducible repeat (first | refine kQN ?_ _ | refine kQD ?_ | refine kQA ?_ _)); refine kQR ?_ NB1155_1191.out _; (with_reducible repeat (first | refine kQN ?_ _ | refine kQD ?_ | refine kQA ?_ _)); refine kQR ?_ NB1155_1191.out _; (with_reducible repeat (first | refine kQN ?_ _ | refine kQD ?_ | refine kQA ?_ _)); exact BK1155.out) hb); have n8_ := Aq.mk (kQB (g := gb1163) (o := .cells #[.int .i64 t1156, .int .i64 t1157, .slice Ao37 t1158.length co37, .int .i64 t1161] 49 (0, 0)) (by (with_reducible repeat (first | refine kQN ?_ _ | refine kQD ?_ | refine kQA ?_ _)); refine kQR ?_ NB1163_1191.out _; (with_reducible repeat (first | refine kQN ?_ _ | refine kQD ?_ | refine kQA ?_ _)); refine kQR ?_ NB1163_1191.out _; (with_reducible repeat (first | refine kQN ?_ _ | refine kQD ?_ | refine kQA ?_ _)); refine kQR ?_ NB1163_1191.out _; (with_reducible repeat (first | refine kQN ?_ _ | refine kQD ?_ | refine kQA ?_ _)); refine kQR ?_ NB1163_1191.out _; (with_reducible repeat (first | refine kQN ?_ _ | refine kQD ?_ | refine kQA ?_ _)); exact BK1163.out) hb); have n9_ := Aq.mk (kQB (g := gb1191) (o := .cells #[.int .i64 t1184, .int .i64 t1185, .slice Ao124 t1186.length co124, .int .i64 t1189] 49 (0, 0)) (by (with_reducible repeat (first | refine kQN ?_ _ | refine kQD ?_ | refine kQA ?_ _)); refine kQP (cs := #[.int .i64 t1184, .int .i64 t1185, .slice Ao124 t1186.length co124, .int .i64 0]) ?_ 3 _ rfl; (with_reducible repeat (first | refine kQN ?_ _ | refine kQD ?_ | refine kQA ?_ _)); refine kQP (cs := #[.int .i64 t1184, .int .i64 t1185, .slice none 0 0, .int .i64 0]) ?_ 2 _ rfl; (with_reducible repeat (first | refine kQN ?_ _ | refine kQD ?_ | refine kQA ?_ _)); refine kQP (cs := #[.int .i64 t1184, .int .i64 0, .slice none 0 0, .int .i64 0]) ?_ 1 _ rfl; (with_reducible repeat (first | refine kQN ?_ _ | refine kQD ?_ | refine kQA ?_ _)); refine kQP (cs := #[.int .i64 0, .int .i64 0, .slice none 0 0, .int .i64 0]) ?_ 0 _ rfl; (with_reducible repeat (first | refine kQN ?_ _ | refine kQD ?_ | refine kQA ?_ _)); exact BK1191.out) hb); have n10_ := Aq.mk (bQT (by repeat (first | (with_reducible first | exact HB.out | apply bQA | apply bQN | apply bQ1 | refine bQS ?_ GE1133.out | refine bQS ?_ GE1148.out | refine bQS ?_ GE1155.out | refine bQS ?_ GE1163.out | refine bQS ?_ GE1191.out) | exact HB.out)) hb); clear HO_1149002; clear HO_1156002; clear HO_1164002; clear HO1182; clear HO1188; clear BK1133; clear BK1148; clear BK1155; clear BK1163; clear BK1191; clear HB; have HO_1149002 := n0_; have HO_1156002 := n1_; have HO_1164002 := n2_; have HO1182 := n3_; have HO1188 := n4_; have BK1133 := n5_; have BK1148 := n6_; have BK1155 := n7_; have BK1163 := n8_; have BK1191 := n9_; have HB := n10_; clear n0_ n1_ n2_ n3_ n4_ n5_ n6_ n7_ n8_ n9_ n10_; (try clear hb); (try clear hb2); (try clear hk); (try clear hi)))
             go_meet
             case rel => exact ⟨_, ((t1190 != t1147)), (by first | rfl | (simp; done) | (simp [*]; done)), H', ⟨by have := HJ11.out; have := HJ60.out; first | omega | exact Nat.le_refl _⟩, ⟨by (try simp only [hl1156002_60]); (with_reducible repeat (first | apply Kd.RqA | apply Kd.RqN | apply Kd.RqD)); exact Kd.R_mono HO_1149002.out (fun _ hk => ⟨hk.1.1.1, ⟨hk.1.1.2, hk.2⟩⟩)⟩, ⟨by (try simp only [hl1156002_60]); (with_reducible repeat (first | apply Kd.RqA | apply Kd.RqN | apply Kd.RqD)); exact Kd.R_mono HO_1156002.out (fun _ hk => ⟨hk.1.1.1, ⟨hk.1.1.2, hk.2⟩⟩)⟩, ⟨by (try simp only [hl1156002_60]); (with_reducible repeat (first | apply Kd.RqA | apply Kd.RqN | apply Kd.RqD)); exact Kd.R_mono HO_1164002.out (fun _ hk => ⟨hk.1.1.1, ⟨hk.1.1.2, hk.2⟩⟩)⟩, ⟨by (try simp only [hl1156002_60]); (with_reducible repeat (first | apply Kd.RqA | apply Kd.RqN | apply Kd.RqD)); exact Kd.R_mono HO1188.out (fun _ hk => ⟨hk.1.1.1.2, ⟨hk.1.1.2, hk.1.2⟩⟩)⟩, ⟨by (try simp only [hl1156002_60]); (with_reducible repeat (first | refine kQN ?_ _ | refine kQD ?_ | refine kQA ?_ _)); exact BK1133.out⟩, ⟨by (try simp only [hl1156002_60]); (with_reducible repeat (first | refine kQN ?_ _ | refine kQD ?_ | refine kQA ?_ _)); exact BK1148.out⟩, ⟨by (try simp only [hl1156002_60]); (with_reducible repeat (first | refine kQN ?_ _ | refine kQD ?_ | refine kQA ?_ _)); exact BK1155.out⟩, ⟨by (try simp only [hl1156002_60]); (with_reducible repeat (first | refine kQN ?_ _ | refine kQD ?_ | refine kQA ?_ _)); exact BK1163.out⟩, ⟨by (try simp only [hl1156002_60]); (with_reducible repeat (first | refine kQN ?_ _ | refine kQD ?_ | refine kQA ?_ _)); exact BK1191.out⟩, ⟨by repeat (first | (with_reducible first | exact HB.out | apply bQA | apply bQN | apply bQ1 | refine bQS ?_ GE1133.out | refine bQS ?_ GE1148.out | refine bQS ?_ GE1155.out | refine bQS ?_ GE1163.out | refine bQS ?_ GE1191.out) | exact HB.out)⟩⟩
            ·replace c126 := Bool.eq_false_iff.mpr c126
             subst c126
             have H1 : (laws_FnExactSquareGabidulin.j2 kj60 t1175 true t1156 t1157 t1176 t1161) = some r := by rw [if_neg (show ¬ (false = true) by decide)] at H; exact H
             clear H
             have H := H1
             clear H1
             have H' := Aq.mk H
             clear H
             have hnb137 := NB1191_1133.out
             have hnc137 := NB1133_1191.out
             have hnb138 := NB1191_1148.out
             have hnc138 := NB1148_1191.out
             have hnb139 := NB1191_1155.out
             have hnc139 := NB1155_1191.out
             have hnb140 := NB1191_1163.out
             have hnc140 := NB1163_1191.out
             have hcz141_0 : w118.cell? ⟨gb1191, 0, none⟩ = some (.int .i64 0) := (kQC BK1191.out 0).trans rfl
             have hcz141_1 : w118.cell? ⟨gb1191, 1, none⟩ = some (.int .i64 0) := (kQC BK1191.out 1).trans rfl
             have hcz141_2 : w118.cell? ⟨gb1191, 2, none⟩ = some (.slice none 0 0) := (kQC BK1191.out 2).trans rfl
             have hcz141_3 : w118.cell? ⟨gb1191, 3, none⟩ = some (.int .i64 0) := (kQC BK1191.out 3).trans rfl
             have hfz141_0 := kQF BK1191.out 0
             have hfz141_1 := kQF BK1191.out 1
             have hfz141_2 := kQF BK1191.out 2
             have hfz141_3 := kQF BK1191.out 3
             have hnb142 := NB1148_1133.out
             have hnc142 := NB1133_1148.out
             have hnb143 := NB1148_1155.out
             have hnc143 := NB1155_1148.out
             have hnb144 := NB1148_1163.out
             have hnc144 := NB1163_1148.out
             have hcz145_0 : w118.cell? ⟨gb1148, 0, none⟩ = some (.int .i64 t1141) := (kQC BK1148.out 0).trans rfl
             have hcz145_1 : w118.cell? ⟨gb1148, 1, none⟩ = some (.int .i64 t1142) := (kQC BK1148.out 1).trans rfl
             have hcz145_2 : w118.cell? ⟨gb1148, 2, none⟩ = some (.slice Ao23 t1143.length co23) := (kQC BK1148.out 2).trans rfl
             have hcz145_3 : w118.cell? ⟨gb1148, 3, none⟩ = some (.int .i64 t1146) := (kQC BK1148.out 3).trans rfl
             have hfz145_0 := kQF BK1148.out 0
             have hfz145_1 := kQF BK1148.out 1
             have hfz145_2 := kQF BK1148.out 2
             have hfz145_3 := kQF BK1148.out 3
             go_wp2_with (first | ((with_reducible refine gQc (f := 39) rfl ?_); refine goesL_ (some 86) rfl rfl Try.func39 (by kernel_rfl) rfl #[.agg #[.int .i64 t1184, .int .i64 t1185, .slice Ao124 t1186.length co124, .int .i64 t1189], .agg #[.int .i64 t1141, .int .i64 t1142, .slice Ao23 t1143.length co23, .int .i64 t1146]] rfl (by (try simp only [List.map_toArray, List.map_cons, List.map_nil]); first | done | rfl | (simp only [List.length_drop, List.length_take]; rfl)) ?_; (with_reducible refine (laws_eqGabidulin.calls kj60 t1184 t1185 _ _ t1186 t1189 t1141 t1142 _ _ t1143 t1146 false _ ?side1 ?side2 ?side3 ?side4 A125.out).mono ?_); (case side1 => refine (Kd.R_reads' (e := 2) (base := w.heap.size) (ok := fun k_ => ((((True ∧ some k_ ≠ (.slice Ao23 t1143.length co23 : Value).ownBlock) ∧ some k_ ≠ (.slice Ao30 t1173.length co30 : Value).ownBlock) ∧ some k_ ≠ (.slice Ao37 t1158.length co37 : Value).ownBlock) ∧ some k_ ≠ (.slice Ao116 t1180.length co116 : Value).ownBlock)) (n := t1186.length) (c := co124) ?_).2.2; exact (by (with_reducible repeat (first | apply Kd.RqA | apply Kd.RqN | apply Kd.RqD)); exact (Kd.R_mono (Kd.R_far (p := ⟨gb1191, 3, none⟩) (Kd.R_far (p := ⟨gb1191, 2, none⟩) (Kd.R_far (p := ⟨gb1191, 1, none⟩) (Kd.R_far (p := ⟨gb1191, 0, none⟩) (Kd.R_types HO1188.out BK1191.out (by decide)) (fun _ hk => hk.2) (.int .i64 t1184)) (fun _ hk => hk.2) (.int .i64 t1185)) (fun _ hk => hk.2) (.slice Ao124 t1186.length co124)) (fun _ hk => hk.2) (.int .i64 t1189)) (fun _ h_ => h_.1)))); (case side2 => exact (Kd.R_reads' HO1188.out).2.1); (case side3 => refine (Kd.R_reads' (e := 2) (base := w.heap.size) (ok := fun k_ => (((some k_ ≠ (.slice Ao30 t1173.length co30 : Value).ownBlock ∧ some k_ ≠ (.slice Ao37 t1158.length co37 : Value).ownBlock) ∧ some k_ ≠ (.slice Ao116 t1180.length co116 : Value).ownBlock) ∧ some k_ ≠ (.slice Ao124 t1186.length co124 : Value).ownBlock)) (n := t1143.length) (c := co23) ?_).2.2; exact (by (with_reducible repeat (first | apply Kd.RqA | apply Kd.RqN | apply Kd.RqD)); exact (Kd.R_mono (Kd.R_far (p := ⟨gb1191, 3, none⟩) (Kd.R_far (p := ⟨gb1191, 2, none⟩) (Kd.R_far (p := ⟨gb1191, 1, none⟩) (Kd.R_far (p := ⟨gb1191, 0, none⟩) (Kd.R_types HO_1149002.out BK1191.out (by decide)) (fun _ hk => hk.2) (.int .i64 t1184)) (fun _ hk => hk.2) (.int .i64 t1185)) (fun _ hk => hk.2) (.slice Ao124 t1186.length co124)) (fun _ hk => hk.2) (.int .i64 t1189)) (fun _ h_ => h_.1)))); (case side4 => exact (Kd.R_reads' HO_1149002.out).2.1); rintro e w146 ⟨rfl, hb⟩; refine ⟨_, rfl, ?_⟩; have n0_ := Aq.mk (Kd.R_below (by (with_reducible repeat (first | apply Kd.RqA | apply Kd.RqN | apply Kd.RqD)); exact (Kd.R_mono (Kd.R_far (p := ⟨gb1191, 3, none⟩) (Kd.R_far (p := ⟨gb1191, 2, none⟩) (Kd.R_far (p := ⟨gb1191, 1, none⟩) (Kd.R_far (p := ⟨gb1191, 0, none⟩) (Kd.R_types HO_1149002.out BK1191.out (by decide)) (fun _ hk => hk.2) (.int .i64 t1184)) (fun _ hk => hk.2) (.int .i64 t1185)) (fun _ hk => hk.2) (.slice Ao124 t1186.length co124)) (fun _ hk => hk.2) (.int .i64 t1189)) (fun _ h_ => h_.1))) hb); have n1_ := Aq.mk (Kd.R_below (by (with_reducible repeat (first | apply Kd.RqA | apply Kd.RqN | apply Kd.RqD)); exact (Kd.R_mono (Kd.R_far (p := ⟨gb1191, 3, none⟩) (Kd.R_far (p := ⟨gb1191, 2, none⟩) (Kd.R_far (p := ⟨gb1191, 1, none⟩) (Kd.R_far (p := ⟨gb1191, 0, none⟩) (Kd.R_types HO_1156002.out BK1191.out (by decide)) (fun _ hk => hk.2) (.int .i64 t1184)) (fun _ hk => hk.2) (.int .i64 t1185)) (fun _ hk => hk.2) (.slice Ao124 t1186.length co124)) (fun _ hk => hk.2) (.int .i64 t1189)) (fun _ h_ => h_.1))) hb); have n2_ := Aq.mk (Kd.R_below (by (with_reducible repeat (first | apply Kd.RqA | apply Kd.RqN | apply Kd.RqD)); exact (Kd.R_mono (Kd.R_far (p := ⟨gb1191, 3, none⟩) (Kd.R_far (p := ⟨gb1191, 2, none⟩) (Kd.R_far (p := ⟨gb1191, 1, none⟩) (Kd.R_far (p := ⟨gb1191, 0, none⟩) (Kd.R_types HO_1164002.out BK1191.out (by decide)) (fun _ hk => hk.2) (.int .i64 t1184)) (fun _ hk => hk.2) (.int .i64 t1185)) (fun _ hk => hk.2) (.slice Ao124 t1186.length co124)) (fun _ hk => hk.2) (.int .i64 t1189)) (fun _ h_ => h_.1))) hb); have n3_ := Aq.mk (Kd.R_below (by (with_reducible repeat (first | apply Kd.RqA | apply Kd.RqN | apply Kd.RqD)); exact (Kd.R_mono (Kd.R_far (p := ⟨gb1191, 3, none⟩) (Kd.R_far (p := ⟨gb1191, 2, none⟩) (Kd.R_far (p := ⟨gb1191, 1, none⟩) (Kd.R_far (p := ⟨gb1191, 0, none⟩) (Kd.R_types HO1182.out BK1191.out (by decide)) (fun _ hk => hk.2) (.int .i64 t1184)) (fun _ hk => hk.2) (.int .i64 t1185)) (fun _ hk => hk.2) (.slice Ao124 t1186.length co124)) (fun _ hk => hk.2) (.int .i64 t1189)) (fun _ h_ => h_.1))) hb); have n4_ := Aq.mk (Kd.R_below (by (with_reducible repeat (first | apply Kd.RqA | apply Kd.RqN | apply Kd.RqD)); exact (Kd.R_mono (Kd.R_far (p := ⟨gb1191, 3, none⟩) (Kd.R_far (p := ⟨gb1191, 2, none⟩) (Kd.R_far (p := ⟨gb1191, 1, none⟩) (Kd.R_far (p := ⟨gb1191, 0, none⟩) (Kd.R_types HO1188.out BK1191.out (by decide)) (fun _ hk => hk.2) (.int .i64 t1184)) (fun _ hk => hk.2) (.int .i64 t1185)) (fun _ hk => hk.2) (.slice Ao124 t1186.length co124)) (fun _ hk => hk.2) (.int .i64 t1189)) (fun _ h_ => h_.1))) hb); have n5_ := Aq.mk (kQB (g := gb1133) (o := .cells #[.int .i64 a0_0, .int .i64 a0_1, .slice A0_2 l0_2.length c0_2, .int .i64 a0_3] 45 (0, 0)) (by (with_reducible repeat (first | refine kQN ?_ _ | refine kQD ?_ | refine kQA ?_ _)); refine kQR ?_ NB1133_1191.out _; (with_reducible repeat (first | refine kQN ?_ _ | refine kQD ?_ | refine kQA ?_ _)); refine kQR ?_ NB1133_1191.out _; (with_reducible repeat (first | refine kQN ?_ _ | refine kQD ?_ | refine kQA ?_ _)); refine kQR ?_ NB1133_1191.out _; (with_reducible repeat (first | refine kQN ?_ _ | refine kQD ?_ | refine kQA ?_ _)); refine kQR ?_ NB1133_1191.out _; (with_reducible repeat (first | refine kQN ?_ _ | refine kQD ?_ | refine kQA ?_ _)); exact BK1133.out) hb); have n6_ := Aq.mk (kQB (g := gb1148) (o := .cells #[.int .i64 t1141, .int .i64 t1142, .slice Ao23 t1143.length co23, .int .i64 t1146] 49 (0, 0)) (by (with_reducible repeat (first | refine kQN ?_ _ | refine kQD ?_ | refine kQA ?_ _)); refine kQR ?_ NB1148_1191.out _; (with_reducible repeat (first | refine kQN ?_ _ | refine kQD ?_ | refine kQA ?_ _)); refine kQR ?_ NB1148_1191.out _; (with_reducible repeat (first | refine kQN ?_ _ | refine kQD ?_ | refine kQA ?_ _)); refine kQR ?_ NB1148_1191.out _; (with_reducible repeat (first | refine kQN ?_ _ | refine kQD ?_ | refine kQA ?_ _)); refine kQR ?_ NB1148_1191.out _; (with_reducible repeat (first | refine kQN ?_ _ | refine kQD ?_ | refine kQA ?_ _)); exact BK1148.out) hb); have n7_ := Aq.mk (kQB (g := gb1155) (o := .cells #[.int .i64 t1149, .int .i64 t1150, .slice Ao30 t1173.length co30, .int .i64 t1154] 49 (0, 0)) (by (with_reducible repeat (first | refine kQN ?_ _ | refine kQD ?_ | refine kQA ?_ _)); refine kQR ?_ NB1155_1191.out _; (with_reducible repeat (first | refine kQN ?_ _ | refine kQD ?_ | refine kQA ?_ _)); refine kQR ?_ NB1155_1191.out _; (with_reducible repeat (first | refine kQN ?_ _ | refine kQD ?_ | refine kQA ?_ _)); refine kQR ?_ NB1155_1191.out _; (with_reducible repeat (first | refine kQN ?_ _ | refine kQD ?_ | refine kQA ?_ _)); refine kQR ?_ NB1155_1191.out _; (with_reducible repeat (first | refine kQN ?_ _ | refine kQD ?_ | refine kQA ?_ _)); exact BK1155.out) hb); have n8_ := Aq.mk (kQB (g := gb1163) (o := .cells #[.int .i64 t1156, .int .i64 t1157, .slice Ao37 t1158.length co37, .int .i64 t1161] 49 (0, 0)) (by (with_reducible repeat (first | refine kQN ?_ _ | refine kQD ?_ | refine kQA ?_ _)); refine kQR ?_ NB1163_1191.out _; (with_reducible repeat (first | refine kQN ?_ _ | refine kQD ?_ | refine kQA ?_ _)); refine kQR ?_ NB1163_1191.out _; (with_reducible repeat (first | refine kQN ?_ _ | refine kQD ?_ | refine kQA ?_ _)); refine kQR ?_ NB1163_1191.out _; (with_reducible repeat (first | refine kQN ?_ _ | refine kQD ?_ | refine kQA ?_ _)); refine kQR ?_ NB1163_1191.out _; (with_reducible repeat (first | refine kQN ?_ _ | refine kQD ?_ | refine kQA ?_ _)); exact BK1163.out) hb); have n9_ := Aq.mk (kQB (g := gb1191) (o := .cells #[.int .i64 t1184, .int .i64 t1185, .slice Ao124 t1186.length co124, .int .i64 t1189] 49 (0, 0)) (by (with_reducible repeat (first | refine kQN ?_ _ | refine kQD ?_ | refine kQA ?_ _)); refine kQP (cs := #[.int .i64 t1184, .int .i64 t1185, .slice Ao124 t1186.length co124, .int .i64 0]) ?_ 3 _ rfl; (with_reducible repeat (first | refine kQN ?_ _ | refine kQD ?_ | refine kQA ?_ _)); refine kQP (cs := #[.int .i64 t1184, .int .i64 t1185, .slice none 0 0, .int .i64 0]) ?_ 2 _ rfl; (with_reducible repeat (first | refine kQN ?_ _ | refine kQD ?_ | refine kQA ?_ _)); refine kQP (cs := #[.int .i64 t1184, .int .i64 0, .slice none 0 0, .int .i64 0]) ?_ 1 _ rfl; (with_reducible repeat (first | refine kQN ?_ _ | refine kQD ?_ | refine kQA ?_ _)); refine kQP (cs := #[.int .i64 0, .int .i64 0, .slice none 0 0, .int .i64 0]) ?_ 0 _ rfl; (with_reducible repeat (first | refine kQN ?_ _ | refine kQD ?_ | refine kQA ?_ _)); exact BK1191.out) hb); have n10_ := Aq.mk (bQT (by repeat (first | (with_reducible first | exact HB.out | apply bQA | apply bQN | apply bQ1 | refine bQS ?_ GE1133.out | refine bQS ?_ GE1148.out | refine bQS ?_ GE1155.out | refine bQS ?_ GE1163.out | refine bQS ?_ GE1191.out) | exact HB.out)) hb); clear HO_1149002; clear HO_1156002; clear HO_1164002; clear HO1182; clear HO1188; clear BK1133; clear BK1148; clear BK1155; clear BK1163; clear BK1191; clear HB; have HO_1149002 := n0_; have HO_1156002 := n1_; have HO_1164002 := n2_; have HO1182 := n3_; have HO1188 := n4_; have BK1133 := n5_; have BK1148 := n6_; have BK1155 := n7_; have BK1163 := n8_; have BK1191 := n9_; have HB := n10_; clear n0_ n1_ n2_ n3_ n4_ n5_ n6_ n7_ n8_ n9_ n10_; (try clear hb); (try clear hb2); (try clear hk); (try clear hi)))
             go_meet
             case rel => exact ⟨_, (true), (by first | rfl | (simp; done) | (simp [*]; done)), H', ⟨by have := HJ11.out; have := HJ60.out; first | omega | exact Nat.le_refl _⟩, ⟨by (try simp only [hl1156002_60]); (with_reducible repeat (first | apply Kd.RqA | apply Kd.RqN | apply Kd.RqD)); exact Kd.R_mono HO_1149002.out (fun _ hk => ⟨hk.1.1.1, ⟨hk.1.1.2, hk.2⟩⟩)⟩, ⟨by (try simp only [hl1156002_60]); (with_reducible repeat (first | apply Kd.RqA | apply Kd.RqN | apply Kd.RqD)); exact Kd.R_mono HO_1156002.out (fun _ hk => ⟨hk.1.1.1, ⟨hk.1.1.2, hk.2⟩⟩)⟩, ⟨by (try simp only [hl1156002_60]); (with_reducible repeat (first | apply Kd.RqA | apply Kd.RqN | apply Kd.RqD)); exact Kd.R_mono HO_1164002.out (fun _ hk => ⟨hk.1.1.1, ⟨hk.1.1.2, hk.2⟩⟩)⟩, ⟨by (try simp only [hl1156002_60]); (with_reducible repeat (first | apply Kd.RqA | apply Kd.RqN | apply Kd.RqD)); exact Kd.R_mono HO1188.out (fun _ hk => ⟨hk.1.1.1.2, ⟨hk.1.1.2, hk.1.2⟩⟩)⟩, ⟨by (try simp only [hl1156002_60]); (with_reducible repeat (first | refine kQN ?_ _ | refine kQD ?_ | refine kQA ?_ _)); exact BK1133.out⟩, ⟨by (try simp only [hl1156002_60]); (with_reducible repeat (first | refine kQN ?_ _ | refine kQD ?_ | refine kQA ?_ _)); exact BK1148.out⟩, ⟨by (try simp only [hl1156002_60]); (with_reducible repeat (first | refine kQN ?_ _ | refine kQD ?_ | refine kQA ?_ _)); exact BK1155.out⟩, ⟨by (try simp only [hl1156002_60]); (with_reducible repeat (first | refine kQN ?_ _ | refine kQD ?_ | refine kQA ?_ _)); exact BK1163.out⟩, ⟨by (try simp only [hl1156002_60]); (with_reducible repeat (first | refine kQN ?_ _ | refine kQD ?_ | refine kQA ?_ _)); exact BK1191.out⟩, ⟨by repeat (first | (with_reducible first | exact HB.out | apply bQA | apply bQN | apply bQ1 | refine bQS ?_ GE1133.out | refine bQS ?_ GE1148.out | refine bQS ?_ GE1155.out | refine bQS ?_ GE1163.out | refine bQS ?_ GE1191.out) | exact HB.out)⟩⟩
           case rest =>
            clear HC104
            try clear c1
            try clear c2
            try clear p2
            try clear c3
            try clear c4
            try clear c4b0
            try clear c5
            try clear c6
            try clear c7
            try clear c8
            try clear c9
            try clear c10
            try clear c11
            try clear c12
            try clear c13
            try clear c14
            try clear c15
            try clear c21
            try clear c27
            try clear c28
            try clear c33
            try clear c34
            try clear c35
            try clear c37
            try clear c39
            try clear c40
            try clear c41
            try clear c42
            try clear c44
            try clear c45
            try clear c48
            try clear c49
            try clear c50
            try clear c52
            try clear c53
            try clear c56
            try clear c59
            try clear c60
            try clear c61
            try clear c62
            try clear c66
            try clear c67
            try clear c68
            try clear c71
            try clear c71b0
            try clear c73
            try clear c74
            try clear c75
            try clear c76
            try clear c78
            try clear c79
            try clear c82
            try clear c83
            try clear c84
            try clear c86
            try clear c87
            try clear c90
            try clear c93
            try clear c93b0
            try clear c94
            try clear c95
            try clear c96
            try clear c101
            try clear c101b0
            try clear c101b1
            try clear c105
            try clear c106
            try clear c107
            try clear c112
            try clear c113
            try clear c119
            try clear c120
            try clear c121
            try clear c122
            try clear c126
            try clear c127
            try clear c128
            try clear c129
            try clear c130
            try clear c132
            try clear c133
            try clear c134
            try clear c137
            try clear c138
            try clear c139
            try clear c140
            try clear c142
            try clear c143
            try clear c144
            try clear hcz108_0
            try clear hcz108_1
            try clear hcz108_2
            try clear hcz108_3
            try clear hcz110_0
            try clear hcz110_1
            try clear hcz110_2
            try clear hcz110_3
            try clear hcz114_0
            try clear hcz114_1
            try clear hcz114_2
            try clear hcz114_3
            try clear hcz123_0
            try clear hcz123_1
            try clear hcz123_2
            try clear hcz123_3
            try clear hcz131_0
            try clear hcz131_1
            try clear hcz131_2
            try clear hcz131_3
            try clear hcz135_0
            try clear hcz135_1
            try clear hcz135_2
            try clear hcz135_3
            try clear hcz141_0
            try clear hcz141_1
            try clear hcz141_2
            try clear hcz141_3
            try clear hcz145_0
            try clear hcz145_1
            try clear hcz145_2
            try clear hcz145_3
            try clear hcz14_0
            try clear hcz14_1
            try clear hcz14_2
            try clear hcz14_3
            try clear hcz16_0
            try clear hcz16_1
            try clear hcz16_2
            try clear hcz16_3
            try clear hcz22_0
            try clear hcz22_1
            try clear hcz22_2
            try clear hcz22_3
            try clear hcz24_0
            try clear hcz24_1
            try clear hcz24_2
            try clear hcz24_3
            try clear hcz29_0
            try clear hcz29_1
            try clear hcz29_2
            try clear hcz29_3
            try clear hcz36_0
            try clear hcz36_1
            try clear hcz36_2
            try clear hcz36_3
            try clear hcz43_0
            try clear hcz43_1
            try clear hcz43_2
            try clear hcz43_3
            try clear hcz46_0
            try clear hcz46_1
            try clear hcz46_2
            try clear hcz46_3
            try clear hcz51_0
            try clear hcz51_1
            try clear hcz51_2
            try clear hcz51_3
            try clear hcz54_0
            try clear hcz54_1
            try clear hcz54_2
            try clear hcz54_3
            try clear hcz69_0
            try clear hcz69_1
            try clear hcz69_2
            try clear hcz69_3
            try clear hcz6_0
            try clear hcz6_1
            try clear hcz6_2
            try clear hcz6_3
            try clear hcz77_0
            try clear hcz77_1
            try clear hcz77_2
            try clear hcz77_3
            try clear hcz80_0
            try clear hcz80_1
            try clear hcz80_2
            try clear hcz80_3
            try clear hcz85_0
            try clear hcz85_1
            try clear hcz85_2
            try clear hcz85_3
            try clear hcz88_0
            try clear hcz88_1
            try clear hcz88_2
            try clear hcz88_3
            try clear hcz97_0
            try clear hcz97_1
            try clear hcz97_2
            try clear hcz97_3
            try clear hcz99_0
            try clear hcz99_1
            try clear hcz99_2
            try clear hcz99_3
            try clear hfz108_0
            try clear hfz108_1
            try clear hfz108_2
            try clear hfz108_3
            try clear hfz110_0
            try clear hfz110_1
            try clear hfz110_2
            try clear hfz110_3
            try clear hfz114_0
            try clear hfz114_1
            try clear hfz114_2
            try clear hfz114_3
            try clear hfz123_0
            try clear hfz123_1
            try clear hfz123_2
            try clear hfz123_3
            try clear hfz131_0
            try clear hfz131_1
            try clear hfz131_2
            try clear hfz131_3
            try clear hfz135_0
            try clear hfz135_1
            try clear hfz135_2
            try clear hfz135_3
            try clear hfz141_0
            try clear hfz141_1
            try clear hfz141_2
            try clear hfz141_3
            try clear hfz145_0
            try clear hfz145_1
            try clear hfz145_2
            try clear hfz145_3
            try clear hfz14_0
            try clear hfz14_1
            try clear hfz14_2
            try clear hfz14_3
            try clear hfz16_0
            try clear hfz16_1
            try clear hfz16_2
            try clear hfz16_3
            try clear hfz22_0
            try clear hfz22_1
            try clear hfz22_2
            try clear hfz22_3
            try clear hfz24_0
            try clear hfz24_1
            try clear hfz24_2
            try clear hfz24_3
            try clear hfz29_0
            try clear hfz29_1
            try clear hfz29_2
            try clear hfz29_3
            try clear hfz36_0
            try clear hfz36_1
            try clear hfz36_2
            try clear hfz36_3
            try clear hfz43_0
            try clear hfz43_1
            try clear hfz43_2
            try clear hfz43_3
            try clear hfz46_0
            try clear hfz46_1
            try clear hfz46_2
            try clear hfz46_3
            try clear hfz51_0
            try clear hfz51_1
            try clear hfz51_2
            try clear hfz51_3
            try clear hfz54_0
            try clear hfz54_1
            try clear hfz54_2
            try clear hfz54_3
            try clear hfz69_0
            try clear hfz69_1
            try clear hfz69_2
            try clear hfz69_3
            try clear hfz6_0
            try clear hfz6_1
            try clear hfz6_2
            try clear hfz6_3
            try clear hfz77_0
            try clear hfz77_1
            try clear hfz77_2
            try clear hfz77_3
            try clear hfz80_0
            try clear hfz80_1
            try clear hfz80_2
            try clear hfz80_3
            try clear hfz85_0
            try clear hfz85_1
            try clear hfz85_2
            try clear hfz85_3
            try clear hfz88_0
            try clear hfz88_1
            try clear hfz88_2
            try clear hfz88_3
            try clear hfz97_0
            try clear hfz97_1
            try clear hfz97_2
            try clear hfz97_3
            try clear hfz99_0
            try clear hfz99_1
            try clear hfz99_2
            try clear hfz99_3
            try clear p2
            obtain ⟨kq, x92_103, rfl, HA, HJ103, HO_1149002, HO_1156002, HO_1164002, HO_1192002, BK1133, BK1148, BK1155, BK1163, BK1191, HB⟩ := hcut
            have hl1164002_103 := (Kd.R_reads' HO_1164002.out).1
            rw [hl1164002_103] at HO_1164002
            (try simp only [hl1164002_103])
            (try simp only [hl1164002_103] at BK1133)
            (try simp only [hl1164002_103] at BK1148)
            (try simp only [hl1164002_103] at BK1155)
            (try simp only [hl1164002_103] at BK1163)
            (try simp only [hl1164002_103] at BK1191)
            (try simp only [hl1164002_103] at HO_1149002)
            (try simp only [hl1164002_103] at HO_1156002)
            (try simp only [hl1164002_103] at HO_1192002)
            cases kq with
            | zero => exact absurd HA.out (by simp [laws_FnExactSquareGabidulin.j2])
            | succ kj103 =>
             have H := HA.out
             clear HA
             simp only [laws_FnExactSquareGabidulin.j2] at H
             by_cases c147 : x92_103 = true
             ·subst c147
              have H1 : (some false) = some r := by rw [if_pos rfl] at H; exact H
              clear H
              have H := H1
              clear H1
              obtain rfl := Option.some.inj H
              go_wp2
              go_ret
              exact ⟨by first | rfl | (simp [errW_none, errW_some] <;> rfl) | (simp [*, errW_none, errW_some] <;> rfl), by repeat (first | (with_reducible first | exact HB.out | apply bQA | apply bQN | apply bQ1 | refine bQS ?_ GE1133.out | refine bQS ?_ GE1148.out | refine bQS ?_ GE1155.out | refine bQS ?_ GE1163.out | refine bQS ?_ GE1191.out) | exact HB.out)⟩
             ·replace c147 := Bool.eq_false_iff.mpr c147
              subst c147
              have H1 : ((laws_heldGabidulin.f kj103 t1156 t1157 t1176 t1161 1).bind fun t1193 => (if t1193 < 0 then (some false) else (if t1193 = t1175 then (some true) else (some false)))) = some r := by rw [if_neg (show ¬ (false = true) by decide)] at H; exact H
              clear H
              have H := H1
              clear H1
              replace H := Option.bind_eq_some_iff.mp H
              obtain ⟨t1193, A1480, H⟩ := H
              replace H : (if t1193 < 0 then (some false) else (if t1193 = t1175 then (some true) else (some false))) = some r := H
              have A148 := Aq.mk A1480
              clear A1480
              by_cases c149 : t1193 < 0
              ·rw [if_pos c149] at H
               have c149b0 : decide (t1193 < 0) = true := decide_eq_true c149
               clear c149
               (try (have c149b0z := c149b0; simp only [hl1156002_60, hl1164002_103] at c149b0z))
               obtain rfl := Option.some.inj H
               have hnb150 := NB1163_1133.out
               have hnc150 := NB1133_1163.out
               have hnb151 := NB1163_1148.out
               have hnc151 := NB1148_1163.out
               have hnb152 := NB1163_1155.out
               have hnc152 := NB1155_1163.out
               have hnb153 := NB1163_1191.out
               have hnc153 := NB1191_1163.out
               have hcz154_0 : wc.cell? ⟨gb1163, 0, none⟩ = some (.int .i64 t1156) := (kQC BK1163.out 0).trans rfl
               have hcz154_1 : wc.cell? ⟨gb1163, 1, none⟩ = some (.int .i64 t1157) := (kQC BK1163.out 1).trans rfl
               have hcz154_2 : wc.cell? ⟨gb1163, 2, none⟩ = some (.slice Ao37 t1176.length co37) := (kQC BK1163.out 2).trans rfl
               have hcz154_3 : wc.cell? ⟨gb1163, 3, none⟩ = some (.int .i64 t1161) := (kQC BK1163.out 3).trans rfl
               have hfz154_0 := kQF BK1163.out 0
               have hfz154_1 := kQF BK1163.out 1
               have hfz154_2 := kQF BK1163.out 2
               have hfz154_3 := kQF BK1163.out 3
               go_wp2_with (first | ((with_reducible refine gQc (f := 62) rfl ?_); refine goesL_ (some 95) rfl rfl Try.func62 (by kernel_rfl) rfl #[.agg #[.int .i64 t1156, .int .i64 t1157, .slice Ao37 t1176.length co37, .int .i64 t1161], .int .i64 1] rfl (by (try simp only [List.map_toArray, List.map_cons, List.map_nil]); first | done | rfl | (simp only [List.length_drop, List.length_take]; rfl)) ?_; (with_reducible refine (laws_heldGabidulin.calls kj103 t1156 t1157 _ _ t1176 t1161 1 t1193 _ ?side1 ?side2 A148.out).mono ?_); (case side1 => repeat (first | exact (Kd.R_reads' HO_1164002.out).2.2 | (with_reducible refine Kd.CqA ?_ _) | (with_reducible refine Kd.CqN ?_ _) | (with_reducible refine Kd.CqD ?_))); (case side2 => exact (Kd.R_reads' HO_1164002.out).2.1); rintro e w155 ⟨rfl, hb⟩; refine ⟨_, rfl, ?_⟩; have n0_ := Aq.mk (Kd.R_below (by (with_reducible repeat (first | apply Kd.RqA | apply Kd.RqN | apply Kd.RqD)); exact HO_1149002.out) hb); have n1_ := Aq.mk (Kd.R_below (by (with_reducible repeat (first | apply Kd.RqA | apply Kd.RqN | apply Kd.RqD)); exact HO_1156002.out) hb); have n2_ := Aq.mk (Kd.R_below (by (with_reducible repeat (first | apply Kd.RqA | apply Kd.RqN | apply Kd.RqD)); exact HO_1164002.out) hb); have n3_ := Aq.mk (Kd.R_below (by (with_reducible repeat (first | apply Kd.RqA | apply Kd.RqN | apply Kd.RqD)); exact HO_1192002.out) hb); have n4_ := Aq.mk (kQB (g := gb1133) (o := .cells #[.int .i64 a0_0, .int .i64 a0_1, .slice A0_2 l0_2.length c0_2, .int .i64 a0_3] 45 (0, 0)) (by (with_reducible repeat (first | refine kQN ?_ _ | refine kQD ?_ | refine kQA ?_ _)); exact BK1133.out) hb); have n5_ := Aq.mk (kQB (g := gb1148) (o := .cells #[.int .i64 t1141, .int .i64 t1142, .slice Ao23 t1143.length co23, .int .i64 t1146] 49 (0, 0)) (by (with_reducible repeat (first | refine kQN ?_ _ | refine kQD ?_ | refine kQA ?_ _)); exact BK1148.out) hb); have n6_ := Aq.mk (kQB (g := gb1155) (o := .cells #[.int .i64 t1149, .int .i64 t1150, .slice Ao30 t1173.length co30, .int .i64 t1154] 49 (0, 0)) (by (with_reducible repeat (first | refine kQN ?_ _ | refine kQD ?_ | refine kQA ?_ _)); exact BK1155.out) hb); have n7_ := Aq.mk (kQB (g := gb1163) (o := .cells #[.int .i64 t1156, .int .i64 t1157, .slice Ao37 t1176.length co37, .int .i64 t1161] 49 (0, 0)) (by (with_reducible repeat (first | refine kQN ?_ _ | refine kQD ?_ | refine kQA ?_ _)); exact BK1163.out) hb); have n8_ := Aq.mk (kQB (g := gb1191) (o := .cells #[.int .i64 t1184, .int .i64 t1185, .slice Ao124 t1186.length co124, .int .i64 t1189] 49 (0, 0)) (by (with_reducible repeat (first | refine kQN ?_ _ | refine kQD ?_ | refine kQA ?_ _)); exact BK1191.out) hb); have n9_ := Aq.mk (bQT (by repeat (first | (with_reducible first | exact HB.out | apply bQA | apply bQN | apply bQ1 | refine bQS ?_ GE1133.out | refine bQS ?_ GE1148.out | refine bQS ?_ GE1155.out | refine bQS ?_ GE1163.out | refine bQS ?_ GE1191.out) | exact HB.out)) hb); clear HO_1149002; clear HO_1156002; clear HO_1164002; clear HO_1192002; clear BK1133; clear BK1148; clear BK1155; clear BK1163; clear BK1191; clear HB; have HO_1149002 := n0_; have HO_1156002 := n1_; have HO_1164002 := n2_; have HO_1192002 := n3_; have BK1133 := n4_; have BK1148 := n5_; have BK1155 := n6_; have BK1163 := n7_; have BK1191 := n8_; have HB := n9_; clear n0_ n1_ n2_ n3_ n4_ n5_ n6_ n7_ n8_ n9_; (try clear hb); (try clear hb2); (try clear hk); (try clear hi)))
               go_ret
               exact ⟨by first | rfl | (simp [errW_none, errW_some] <;> rfl) | (simp [*, errW_none, errW_some] <;> rfl), by repeat (first | (with_reducible first | exact HB.out | apply bQA | apply bQN | apply bQ1 | refine bQS ?_ GE1133.out | refine bQS ?_ GE1148.out | refine bQS ?_ GE1155.out | refine bQS ?_ GE1163.out | refine bQS ?_ GE1191.out) | exact HB.out)⟩
              ·rw [if_neg c149] at H
               have c149b0 : decide (t1193 < 0) = false := decide_eq_false c149
               clear c149
               (try (have c149b0z := c149b0; simp only [hl1156002_60, hl1164002_103] at c149b0z))
               by_cases c156 : t1193 = t1175
               ·rw [if_pos c156] at H
                have c156b0 : (t1193 == t1175) = true := beq_iff_eq.mpr c156
                have c156b1 : (t1193 != t1175) = false := bne_eq_false_iff_eq.mpr c156
                clear c156
                (try (have c156b0z := c156b0; simp only [hl1156002_60, hl1164002_103] at c156b0z))
                (try (have c156b1z := c156b1; simp only [hl1156002_60, hl1164002_103] at c156b1z))
                obtain rfl := Option.some.inj H
                have hnb157 := NB1163_1133.out
                have hnc157 := NB1133_1163.out
                have hnb158 := NB1163_1148.out
                have hnc158 := NB1148_1163.out
                have hnb159 := NB1163_1155.out
                have hnc159 := NB1155_1163.out
                have hnb160 := NB1163_1191.out
                have hnc160 := NB1191_1163.out
                have hcz161_0 : wc.cell? ⟨gb1163, 0, none⟩ = some (.int .i64 t1156) := (kQC BK1163.out 0).trans rfl
                have hcz161_1 : wc.cell? ⟨gb1163, 1, none⟩ = some (.int .i64 t1157) := (kQC BK1163.out 1).trans rfl
                have hcz161_2 : wc.cell? ⟨gb1163, 2, none⟩ = some (.slice Ao37 t1176.length co37) := (kQC BK1163.out 2).trans rfl
                have hcz161_3 : wc.cell? ⟨gb1163, 3, none⟩ = some (.int .i64 t1161) := (kQC BK1163.out 3).trans rfl
                have hfz161_0 := kQF BK1163.out 0
                have hfz161_1 := kQF BK1163.out 1
                have hfz161_2 := kQF BK1163.out 2
                have hfz161_3 := kQF BK1163.out 3
                go_wp2_with (first | ((with_reducible refine gQc (f := 62) rfl ?_); refine goesL_ (some 95) rfl rfl Try.func62 (by kernel_rfl) rfl #[.agg #[.int .i64 t1156, .int .i64 t1157, .slice Ao37 t1176.length co37, .int .i64 t1161], .int .i64 1] rfl (by (try simp only [List.map_toArray, List.map_cons, List.map_nil]); first | done | rfl | (simp only [List.length_drop, List.length_take]; rfl)) ?_; (with_reducible refine (laws_heldGabidulin.calls kj103 t1156 t1157 _ _ t1176 t1161 1 t1193 _ ?side1 ?side2 A148.out).mono ?_); (case side1 => repeat (first | exact (Kd.R_reads' HO_1164002.out).2.2 | (with_reducible refine Kd.CqA ?_ _) | (with_reducible refine Kd.CqN ?_ _) | (with_reducible refine Kd.CqD ?_))); (case side2 => exact (Kd.R_reads' HO_1164002.out).2.1); rintro e w162 ⟨rfl, hb⟩; refine ⟨_, rfl, ?_⟩; have n0_ := Aq.mk (Kd.R_below (by (with_reducible repeat (first | apply Kd.RqA | apply Kd.RqN | apply Kd.RqD)); exact HO_1149002.out) hb); have n1_ := Aq.mk (Kd.R_below (by (with_reducible repeat (first | apply Kd.RqA | apply Kd.RqN | apply Kd.RqD)); exact HO_1156002.out) hb); have n2_ := Aq.mk (Kd.R_below (by (with_reducible repeat (first | apply Kd.RqA | apply Kd.RqN | apply Kd.RqD)); exact HO_1164002.out) hb); have n3_ := Aq.mk (Kd.R_below (by (with_reducible repeat (first | apply Kd.RqA | apply Kd.RqN | apply Kd.RqD)); exact HO_1192002.out) hb); have n4_ := Aq.mk (kQB (g := gb1133) (o := .cells #[.int .i64 a0_0, .int .i64 a0_1, .slice A0_2 l0_2.length c0_2, .int .i64 a0_3] 45 (0, 0)) (by (with_reducible repeat (first | refine kQN ?_ _ | refine kQD ?_ | refine kQA ?_ _)); exact BK1133.out) hb); have n5_ := Aq.mk (kQB (g := gb1148) (o := .cells #[.int .i64 t1141, .int .i64 t1142, .slice Ao23 t1143.length co23, .int .i64 t1146] 49 (0, 0)) (by (with_reducible repeat (first | refine kQN ?_ _ | refine kQD ?_ | refine kQA ?_ _)); exact BK1148.out) hb); have n6_ := Aq.mk (kQB (g := gb1155) (o := .cells #[.int .i64 t1149, .int .i64 t1150, .slice Ao30 t1173.length co30, .int .i64 t1154] 49 (0, 0)) (by (with_reducible repeat (first | refine kQN ?_ _ | refine kQD ?_ | refine kQA ?_ _)); exact BK1155.out) hb); have n7_ := Aq.mk (kQB (g := gb1163) (o := .cells #[.int .i64 t1156, .int .i64 t1157, .slice Ao37 t1176.length co37, .int .i64 t1161] 49 (0, 0)) (by (with_reducible repeat (first | refine kQN ?_ _ | refine kQD ?_ | refine kQA ?_ _)); exact BK1163.out) hb); have n8_ := Aq.mk (kQB (g := gb1191) (o := .cells #[.int .i64 t1184, .int .i64 t1185, .slice Ao124 t1186.length co124, .int .i64 t1189] 49 (0, 0)) (by (with_reducible repeat (first | refine kQN ?_ _ | refine kQD ?_ | refine kQA ?_ _)); exact BK1191.out) hb); have n9_ := Aq.mk (bQT (by repeat (first | (with_reducible first | exact HB.out | apply bQA | apply bQN | apply bQ1 | refine bQS ?_ GE1133.out | refine bQS ?_ GE1148.out | refine bQS ?_ GE1155.out | refine bQS ?_ GE1163.out | refine bQS ?_ GE1191.out) | exact HB.out)) hb); clear HO_1149002; clear HO_1156002; clear HO_1164002; clear HO_1192002; clear BK1133; clear BK1148; clear BK1155; clear BK1163; clear BK1191; clear HB; have HO_1149002 := n0_; have HO_1156002 := n1_; have HO_1164002 := n2_; have HO_1192002 := n3_; have BK1133 := n4_; have BK1148 := n5_; have BK1155 := n6_; have BK1163 := n7_; have BK1191 := n8_; have HB := n9_; clear n0_ n1_ n2_ n3_ n4_ n5_ n6_ n7_ n8_ n9_; (try clear hb); (try clear hb2); (try clear hk); (try clear hi)))
                go_ret
                exact ⟨by first | rfl | (simp [errW_none, errW_some] <;> rfl) | (simp [*, errW_none, errW_some] <;> rfl), by repeat (first | (with_reducible first | exact HB.out | apply bQA | apply bQN | apply bQ1 | refine bQS ?_ GE1133.out | refine bQS ?_ GE1148.out | refine bQS ?_ GE1155.out | refine bQS ?_ GE1163.out | refine bQS ?_ GE1191.out) | exact HB.out)⟩
               ·rw [if_neg c156] at H
                have c156b0 : (t1193 == t1175) = false := beq_eq_false_iff_ne.mpr c156
                have c156b1 : (t1193 != t1175) = true := bne_iff_ne.mpr c156
                (try (have c156b0z := c156b0; simp only [hl1156002_60, hl1164002_103] at c156b0z))
                (try (have c156b1z := c156b1; simp only [hl1156002_60, hl1164002_103] at c156b1z))
                obtain rfl := Option.some.inj H
                have hnb163 := NB1163_1133.out
                have hnc163 := NB1133_1163.out
                have hnb164 := NB1163_1148.out
                have hnc164 := NB1148_1163.out
                have hnb165 := NB1163_1155.out
                have hnc165 := NB1155_1163.out
                have hnb166 := NB1163_1191.out
                have hnc166 := NB1191_1163.out
                have hcz167_0 : wc.cell? ⟨gb1163, 0, none⟩ = some (.int .i64 t1156) := (kQC BK1163.out 0).trans rfl
                have hcz167_1 : wc.cell? ⟨gb1163, 1, none⟩ = some (.int .i64 t1157) := (kQC BK1163.out 1).trans rfl
                have hcz167_2 : wc.cell? ⟨gb1163, 2, none⟩ = some (.slice Ao37 t1176.length co37) := (kQC BK1163.out 2).trans rfl
                have hcz167_3 : wc.cell? ⟨gb1163, 3, none⟩ = some (.int .i64 t1161) := (kQC BK1163.out 3).trans rfl
                have hfz167_0 := kQF BK1163.out 0
                have hfz167_1 := kQF BK1163.out 1
                have hfz167_2 := kQF BK1163.out 2
                have hfz167_3 := kQF BK1163.out 3
                go_wp2_with (first | ((with_reducible refine gQc (f := 62) rfl ?_); refine goesL_ (some 95) rfl rfl Try.func62 (by kernel_rfl) rfl #[.agg #[.int .i64 t1156, .int .i64 t1157, .slice Ao37 t1176.length co37, .int .i64 t1161], .int .i64 1] rfl (by (try simp only [List.map_toArray, List.map_cons, List.map_nil]); first | done | rfl | (simp only [List.length_drop, List.length_take]; rfl)) ?_; (with_reducible refine (laws_heldGabidulin.calls kj103 t1156 t1157 _ _ t1176 t1161 1 t1193 _ ?side1 ?side2 A148.out).mono ?_); (case side1 => repeat (first | exact (Kd.R_reads' HO_1164002.out).2.2 | (with_reducible refine Kd.CqA ?_ _) | (with_reducible refine Kd.CqN ?_ _) | (with_reducible refine Kd.CqD ?_))); (case side2 => exact (Kd.R_reads' HO_1164002.out).2.1); rintro e w168 ⟨rfl, hb⟩; refine ⟨_, rfl, ?_⟩; have n0_ := Aq.mk (Kd.R_below (by (with_reducible repeat (first | apply Kd.RqA | apply Kd.RqN | apply Kd.RqD)); exact HO_1149002.out) hb); have n1_ := Aq.mk (Kd.R_below (by (with_reducible repeat (first | apply Kd.RqA | apply Kd.RqN | apply Kd.RqD)); exact HO_1156002.out) hb); have n2_ := Aq.mk (Kd.R_below (by (with_reducible repeat (first | apply Kd.RqA | apply Kd.RqN | apply Kd.RqD)); exact HO_1164002.out) hb); have n3_ := Aq.mk (Kd.R_below (by (with_reducible repeat (first | apply Kd.RqA | apply Kd.RqN | apply Kd.RqD)); exact HO_1192002.out) hb); have n4_ := Aq.mk (kQB (g := gb1133) (o := .cells #[.int .i64 a0_0, .int .i64 a0_1, .slice A0_2 l0_2.length c0_2, .int .i64 a0_3] 45 (0, 0)) (by (with_reducible repeat (first | refine kQN ?_ _ | refine kQD ?_ | refine kQA ?_ _)); exact BK1133.out) hb); have n5_ := Aq.mk (kQB (g := gb1148) (o := .cells #[.int .i64 t1141, .int .i64 t1142, .slice Ao23 t1143.length co23, .int .i64 t1146] 49 (0, 0)) (by (with_reducible repeat (first | refine kQN ?_ _ | refine kQD ?_ | refine kQA ?_ _)); exact BK1148.out) hb); have n6_ := Aq.mk (kQB (g := gb1155) (o := .cells #[.int .i64 t1149, .int .i64 t1150, .slice Ao30 t1173.length co30, .int .i64 t1154] 49 (0, 0)) (by (with_reducible repeat (first | refine kQN ?_ _ | refine kQD ?_ | refine kQA ?_ _)); exact BK1155.out) hb); have n7_ := Aq.mk (kQB (g := gb1163) (o := .cells #[.int .i64 t1156, .int .i64 t1157, .slice Ao37 t1176.length co37, .int .i64 t1161] 49 (0, 0)) (by (with_reducible repeat (first | refine kQN ?_ _ | refine kQD ?_ | refine kQA ?_ _)); exact BK1163.out) hb); have n8_ := Aq.mk (kQB (g := gb1191) (o := .cells #[.int .i64 t1184, .int .i64 t1185, .slice Ao124 t1186.length co124, .int .i64 t1189] 49 (0, 0)) (by (with_reducible repeat (first | refine kQN ?_ _ | refine kQD ?_ | refine kQA ?_ _)); exact BK1191.out) hb); have n9_ := Aq.mk (bQT (by repeat (first | (with_reducible first | exact HB.out | apply bQA | apply bQN | apply bQ1 | refine bQS ?_ GE1133.out | refine bQS ?_ GE1148.out | refine bQS ?_ GE1155.out | refine bQS ?_ GE1163.out | refine bQS ?_ GE1191.out) | exact HB.out)) hb); clear HO_1149002; clear HO_1156002; clear HO_1164002; clear HO_1192002; clear BK1133; clear BK1148; clear BK1155; clear BK1163; clear BK1191; clear HB; have HO_1149002 := n0_; have HO_1156002 := n1_; have HO_1164002 := n2_; have HO_1192002 := n3_; have BK1133 := n4_; have BK1148 := n5_; have BK1155 := n6_; have BK1163 := n7_; have BK1191 := n8_; have HB := n9_; clear n0_ n1_ n2_ n3_ n4_ n5_ n6_ n7_ n8_ n9_; (try clear hb); (try clear hb2); (try clear hk); (try clear hi)))
                go_ret
                exact ⟨by first | rfl | (simp [errW_none, errW_some] <;> rfl) | (simp [*, errW_none, errW_some] <;> rfl), by repeat (first | (with_reducible first | exact HB.out | apply bQA | apply bQN | apply bQ1 | refine bQS ?_ GE1133.out | refine bQS ?_ GE1148.out | refine bQS ?_ GE1155.out | refine bQS ?_ GE1163.out | refine bQS ?_ GE1191.out) | exact HB.out)⟩
          ·rw [if_neg c101] at H
           have c101b0 : (t1177 == t1175) = false := beq_eq_false_iff_ne.mpr c101
           have c101b1 : (t1177 != t1175) = true := bne_iff_ne.mpr c101
           (try (have c101b0z := c101b0; simp only [hl1156002_60] at c101b0z))
           (try (have c101b1z := c101b1; simp only [hl1156002_60] at c101b1z))
           obtain rfl := Option.some.inj H
           have hnb169 := NB1163_1133.out
           have hnc169 := NB1133_1163.out
           have hnb170 := NB1163_1148.out
           have hnc170 := NB1148_1163.out
           have hnb171 := NB1163_1155.out
           have hnc171 := NB1155_1163.out
           have hcz172_0 : wc.cell? ⟨gb1163, 0, none⟩ = some (.int .i64 t1156) := (kQC BK1163.out 0).trans rfl
           have hcz172_1 : wc.cell? ⟨gb1163, 1, none⟩ = some (.int .i64 t1157) := (kQC BK1163.out 1).trans rfl
           have hcz172_2 : wc.cell? ⟨gb1163, 2, none⟩ = some (.slice Ao37 t1158.length co37) := (kQC BK1163.out 2).trans rfl
           have hcz172_3 : wc.cell? ⟨gb1163, 3, none⟩ = some (.int .i64 t1161) := (kQC BK1163.out 3).trans rfl
           have hfz172_0 := kQF BK1163.out 0
           have hfz172_1 := kQF BK1163.out 1
           have hfz172_2 := kQF BK1163.out 2
           have hfz172_3 := kQF BK1163.out 3
           go_wp2_with (first | ((with_reducible refine gQc (f := 61) rfl ?_); refine goesL_ (some 68) rfl rfl Try.func61 (by kernel_rfl) rfl #[.agg #[.int .i64 t1156, .int .i64 t1157, .slice Ao37 t1158.length co37, .int .i64 t1161], .int .i64 1] rfl (by (try simp only [List.map_toArray, List.map_cons, List.map_nil]); first | done | rfl | (simp only [List.length_drop, List.length_take]; rfl)) ?_; (with_reducible refine (laws_markGabidulin.calls kj60 t1156 t1157 (fun k_ => some k_ = (.slice Ao37 t1158.length co37 : Value).ownBlock) (.slice Ao37 t1158.length co37) t1158 t1161 1 t1175 t1176 w _ ?side1 ?side2 A91.out).mono ?_); (case side1 => repeat (first | (with_reducible first | exact HB.out | apply bQA | apply bQN | apply bQ1 | refine bQS ?_ GE1133.out | refine bQS ?_ GE1148.out | refine bQS ?_ GE1155.out | refine bQS ?_ GE1163.out) | exact HB.out)); (case side2 => exact Kd.R_tight rfl HO_1164002.out); rintro e w173 ⟨rfl, hy0, hb, hkp⟩; refine ⟨_, rfl, ?_⟩; have n0_ := Aq.mk (Kd.R_mono (ok' := fun k_ => some k_ ≠ (.slice Ao30 t1173.length co30 : Value).ownBlock ∧ some k_ ≠ (.slice Ao37 t1158.length co37 : Value).ownBlock) (Kd.R_keptB (HO_1149002.out) hkp (fun k_ hk_ hs_ => (hk_.2) hs_)) (fun k_ hk_ => ⟨hk_.1.1, hk_.1.2⟩)); have n1_ := Aq.mk (Kd.R_mono (ok' := fun k_ => some k_ ≠ (.slice Ao23 t1143.length co23 : Value).ownBlock ∧ some k_ ≠ (.slice Ao37 t1158.length co37 : Value).ownBlock) (Kd.R_keptB (HO_1156002.out) hkp (fun k_ hk_ hs_ => (hk_.2) hs_)) (fun k_ hk_ => ⟨hk_.1.1, hk_.1.2⟩)); have n2_ := Aq.mk (Kd.R_reok rfl hy0 (fun k_ e_ => HO_1164002.out.1 k_ e_)); have n3_ := Aq.mk (blk_kept (by (with_reducible repeat (first | refine kQN ?_ _ | refine kQD ?_ | refine kQA ?_ _)); exact BK1133.out) hkp (fun hs_ => (fun e_ => (Kd.R_ne HO_1164002.out BK1133.out (by decide)) e_) hs_)); have n4_ := Aq.mk (blk_kept (by (with_reducible repeat (first | refine kQN ?_ _ | refine kQD ?_ | refine kQA ?_ _)); exact BK1148.out) hkp (fun hs_ => (fun e_ => (Kd.R_ne HO_1164002.out BK1148.out (by decide)) e_) hs_)); have n5_ := Aq.mk (blk_kept (by (with_reducible repeat (first | refine kQN ?_ _ | refine kQD ?_ | refine kQA ?_ _)); exact BK1155.out) hkp (fun hs_ => (fun e_ => (Kd.R_ne HO_1164002.out BK1155.out (by decide)) e_) hs_)); have n6_ := Aq.mk (blk_kept (by (with_reducible repeat (first | refine kQN ?_ _ | refine kQD ?_ | refine kQA ?_ _)); exact BK1163.out) hkp (fun hs_ => (fun e_ => (Kd.R_ne HO_1164002.out BK1163.out (by decide)) e_) hs_)); have n7_ := Aq.mk (hb); clear HO_1149002; clear HO_1156002; clear HO_1164002; clear BK1133; clear BK1148; clear BK1155; clear BK1163; clear HB; have HO_1149002 := n0_; have HO_1156002 := n1_; have HO_1164002 := n2_; have BK1133 := n3_; have BK1148 := n4_; have BK1155 := n5_; have BK1163 := n6_; have HB := n7_; clear n0_ n1_ n2_ n3_ n4_ n5_ n6_ n7_; (try clear hb); (try clear hkp); (try clear hy0); have hcz174_0 : w173.cell? ⟨gb1163, 0, none⟩ = some (.int .i64 t1156) := (kQC BK1163.out 0).trans rfl; have hcz174_1 : w173.cell? ⟨gb1163, 1, none⟩ = some (.int .i64 t1157) := (kQC BK1163.out 1).trans rfl; have hcz174_2 : w173.cell? ⟨gb1163, 2, none⟩ = some (.slice Ao37 t1158.length co37) := (kQC BK1163.out 2).trans rfl; have hcz174_3 : w173.cell? ⟨gb1163, 3, none⟩ = some (.int .i64 t1161) := (kQC BK1163.out 3).trans rfl; have hfz174_0 := kQF BK1163.out 0; have hfz174_1 := kQF BK1163.out 1; have hfz174_2 := kQF BK1163.out 2; have hfz174_3 := kQF BK1163.out 3) | ((with_reducible refine gQc (f := 62) rfl ?_); refine goesL_ (some 71) rfl rfl Try.func62 (by kernel_rfl) rfl #[.agg #[.int .i64 t1156, .int .i64 t1157, .slice Ao37 t1176.length co37, .int .i64 t1161], .int .i64 1] rfl (by (try simp only [List.map_toArray, List.map_cons, List.map_nil]); first | done | (rw [show t1176.length = t1158.length from (Kd.R_reads' HO_1164002.out).1.symm] <;> rfl) | rfl | (simp only [List.length_drop, List.length_take]; rfl)) ?_; (with_reducible refine (laws_heldGabidulin.calls kj60 t1156 t1157 _ _ t1176 t1161 1 t1177 _ ?side1 ?side2 A92.out).mono ?_); (case side1 => repeat (first | exact (Kd.R_reads' HO_1164002.out).2.2 | (with_reducible refine Kd.CqA ?_ _) | (with_reducible refine Kd.CqN ?_ _) | (with_reducible refine Kd.CqD ?_))); (case side2 => rw [show t1176.length = t1158.length from (Kd.R_reads' HO_1164002.out).1.symm]; exact (Kd.R_reads' HO_1164002.out).2.1); rintro e w175 ⟨rfl, hb⟩; refine ⟨_, rfl, ?_⟩; have n0_ := Aq.mk (Kd.R_below (by (with_reducible repeat (first | apply Kd.RqA | apply Kd.RqN | apply Kd.RqD)); exact HO_1149002.out) hb); have n1_ := Aq.mk (Kd.R_below (by (with_reducible repeat (first | apply Kd.RqA | apply Kd.RqN | apply Kd.RqD)); exact HO_1156002.out) hb); have n2_ := Aq.mk (Kd.R_below (by (with_reducible repeat (first | apply Kd.RqA | apply Kd.RqN | apply Kd.RqD)); exact HO_1164002.out) hb); have n3_ := Aq.mk (kQB (g := gb1133) (o := .cells #[.int .i64 a0_0, .int .i64 a0_1, .slice A0_2 l0_2.length c0_2, .int .i64 a0_3] 45 (0, 0)) (by (with_reducible repeat (first | refine kQN ?_ _ | refine kQD ?_ | refine kQA ?_ _)); exact BK1133.out) hb); have n4_ := Aq.mk (kQB (g := gb1148) (o := .cells #[.int .i64 t1141, .int .i64 t1142, .slice Ao23 t1143.length co23, .int .i64 t1146] 49 (0, 0)) (by (with_reducible repeat (first | refine kQN ?_ _ | refine kQD ?_ | refine kQA ?_ _)); exact BK1148.out) hb); have n5_ := Aq.mk (kQB (g := gb1155) (o := .cells #[.int .i64 t1149, .int .i64 t1150, .slice Ao30 t1173.length co30, .int .i64 t1154] 49 (0, 0)) (by (with_reducible repeat (first | refine kQN ?_ _ | refine kQD ?_ | refine kQA ?_ _)); exact BK1155.out) hb); have n6_ := Aq.mk (kQB (g := gb1163) (o := .cells #[.int .i64 t1156, .int .i64 t1157, .slice Ao37 t1158.length co37, .int .i64 t1161] 49 (0, 0)) (by (with_reducible repeat (first | refine kQN ?_ _ | refine kQD ?_ | refine kQA ?_ _)); exact BK1163.out) hb); have n7_ := Aq.mk (bQT (by repeat (first | (with_reducible first | exact HB.out | apply bQA | apply bQN | apply bQ1 | refine bQS ?_ GE1133.out | refine bQS ?_ GE1148.out | refine bQS ?_ GE1155.out | refine bQS ?_ GE1163.out) | exact HB.out)) hb); clear HO_1149002; clear HO_1156002; clear HO_1164002; clear BK1133; clear BK1148; clear BK1155; clear BK1163; clear HB; have HO_1149002 := n0_; have HO_1156002 := n1_; have HO_1164002 := n2_; have BK1133 := n3_; have BK1148 := n4_; have BK1155 := n5_; have BK1163 := n6_; have HB := n7_; clear n0_ n1_ n2_ n3_ n4_ n5_ n6_ n7_; (try clear hb); (try clear hb2); (try clear hk); (try clear hi)))
           go_ret
           exact ⟨by first | rfl | (simp [errW_none, errW_some] <;> rfl) | (simp [*, errW_none, errW_some] <;> rfl), by repeat (first | (with_reducible first | exact HB.out | apply bQA | apply bQN | apply bQ1 | refine bQS ?_ GE1133.out | refine bQS ?_ GE1148.out | refine bQS ?_ GE1155.out | refine bQS ?_ GE1163.out) | exact HB.out)⟩
     ·replace c59 := Bool.eq_false_iff.mpr c59
      subst c59
      have H1 : (some false) = some r := by rw [if_neg (show ¬ (false = true) by decide)] at H; exact H
      clear H
      have H := H1
      clear H1
      obtain rfl := Option.some.inj H
      try go_wp2
      have n0_ := Aq.mk (Kd.RqD HO_1149002.out)
      have n1_ := Aq.mk (Kd.RqD HO_1156002.out)
      have n2_ := Aq.mk (Kd.RqD HO_1164002.out)
      have n3_ := Aq.mk (kQD BK1133.out)
      have n4_ := Aq.mk (kQD BK1148.out)
      have n5_ := Aq.mk (kQD BK1155.out)
      have n6_ := Aq.mk (kQD BK1163.out)
      have n7_ := Aq.mk (bQ1 HB.out)
      clear HO_1149002
      clear HO_1156002
      clear HO_1164002
      clear BK1133
      clear BK1148
      clear BK1155
      clear BK1163
      clear HB
      have HO_1149002 := n0_
      have HO_1156002 := n1_
      have HO_1164002 := n2_
      have BK1133 := n3_
      have BK1148 := n4_
      have BK1155 := n5_
      have BK1163 := n6_
      have HB := n7_
      clear n0_ n1_ n2_ n3_ n4_ n5_ n6_ n7_
      refine start_ (n := 5) (S := fun w' => w'.cell? ⟨gb1155, 0, none⟩ = some (.int .i64 t1149) ∧ w'.cell? ⟨gb1155, 1, none⟩ = some (.int .i64 t1150) ∧ w'.cell? ⟨gb1155, 2, none⟩ = some (.slice Ao30 t1151.length co30) ∧ w'.cell? ⟨gb1155, 3, none⟩ = some (.int .i64 t1154) ∧ w'.cell? ⟨gb1133, 0, none⟩ = some (.int .i64 a0_0) ∧ w'.cell? ⟨gb1133, 1, none⟩ = some (.int .i64 a0_1) ∧ w'.cell? ⟨gb1133, 2, none⟩ = some (.slice A0_2 l0_2.length c0_2) ∧ w'.cell? ⟨gb1133, 3, none⟩ = some (.int .i64 a0_3)) (ds := []) #[false, false, false, false, false] (by kernel_rfl) rfl rfl ⟨(kQC BK1155.out 0).trans rfl, (kQC BK1155.out 1).trans rfl, (kQC BK1155.out 2).trans rfl, (kQC BK1155.out 3).trans rfl, (kQC BK1133.out 0).trans rfl, (kQC BK1133.out 1).trans rfl, (kQC BK1133.out 2).trans rfl, (kQC BK1133.out 3).trans rfl⟩ (fun hHeld => ?_)
      generalize wc.drew = w176 at HO_1149002 HO_1156002 HO_1164002 BK1133 BK1148 BK1155 BK1163 HB hHeld ⊢
      refine take_ (i := 0) (N := some 45) (v := ?_) (a' := ?_) #[true, false, false, false, false] rfl rfl (by kernel_rfl) (fun _ _ _ h => h) (Or.inl ⟨by rfl, ?_⟩) hHeld ?_ ?_
      rotate_left
      ·rintro w' ⟨s0, s1, s2, s3, s4, s5, s6, s7⟩
       go_simp
       with_reducible rfl
      rotate_left
      ·simp only [Act.put, qSa, qSb, qSc, i64_w, i32_w]
       rfl
      refine take_ (i := 1) (N := some 46) (v := ?_) (a' := ?_) #[true, true, false, false, false] rfl rfl (by kernel_rfl) (fun _ _ _ h => h) (Or.inl ⟨by rfl, ?_⟩) hHeld ?_ ?_
      rotate_left
      ·rintro w' ⟨s0, s1, s2, s3, s4, s5, s6, s7⟩
       go_simp
       with_reducible rfl
      rotate_left
      ·simp only [Act.put, qSa, qSb, qSc, i64_w, i32_w]
       rfl
      refine one_ (i := 2) (N := some 47) #[true, true, true, false, false] rfl rfl (by kernel_rfl) (by decide) (fun K hK => ?_)
      refine goes_ Try.func37 (by kernel_rfl) rfl #[.agg #[.int .i64 a0_0, .int .i64 a0_1, .slice A0_2 l0_2.length c0_2, .int .i64 a0_3]] (by rfl) rfl rfl (by (try simp only [List.map_toArray, List.map_cons, List.map_nil]); first | done | rfl | (simp only [List.length_drop, List.length_take]; rfl)) ?_
      with_reducible refine (laws_toGabidulin.calls kj11 a0_0 a0_1 _ _ l0_2 a0_3 t1165 t1166 t1167 t1170 _ ?side1 ?side2 A57.out).mono ?_
      (case side1 => repeat (first | exact (Kd.C_below HR0_2.out HB.out) | (with_reducible refine Kd.CqA ?_ _) | (with_reducible refine Kd.CqN ?_ _) | (with_reducible refine Kd.CqD ?_)))
      (case side2 => exact HC0_2.out)
      rintro e w177 ⟨v1168, rfl, ho0, hb⟩
      refine ⟨_, rfl, ?_⟩
      have n0_ := Aq.mk (Kd.R_elder' (by (with_reducible repeat (first | apply Kd.RqA | apply Kd.RqN | apply Kd.RqD)); exact HO_1149002.out) (Kd.R_base ho0) hb)
      have n1_ := Aq.mk (Kd.R_elder' (by (with_reducible repeat (first | apply Kd.RqA | apply Kd.RqN | apply Kd.RqD)); exact HO_1156002.out) (Kd.R_base ho0) hb)
      have n2_ := Aq.mk (Kd.R_elder' (by (with_reducible repeat (first | apply Kd.RqA | apply Kd.RqN | apply Kd.RqD)); exact HO_1164002.out) (Kd.R_base ho0) hb)
      have n3_ := Aq.mk (Kd.R_lower (Kd.R_new' (Kd.R_new' (Kd.R_new' ho0 (Kd.R_lt (by (with_reducible repeat (first | apply Kd.RqA | apply Kd.RqN | apply Kd.RqD)); exact HO_1149002.out))) (Kd.R_lt (by (with_reducible repeat (first | apply Kd.RqA | apply Kd.RqN | apply Kd.RqD)); exact HO_1156002.out))) (Kd.R_lt (by (with_reducible repeat (first | apply Kd.RqA | apply Kd.RqN | apply Kd.RqD)); exact HO_1164002.out))) (bQZ (by repeat (first | (with_reducible first | exact HB.out | apply bQA | apply bQN | apply bQ1 | refine bQS ?_ GE1133.out | refine bQS ?_ GE1148.out | refine bQS ?_ GE1155.out | refine bQS ?_ GE1163.out) | exact HB.out))))
      have n4_ := Aq.mk (kQB (g := gb1133) (o := .cells #[.int .i64 a0_0, .int .i64 a0_1, .slice A0_2 l0_2.length c0_2, .int .i64 a0_3] 45 (0, 0)) (by (with_reducible repeat (first | refine kQN ?_ _ | refine kQD ?_ | refine kQA ?_ _)); exact BK1133.out) hb)
      have n5_ := Aq.mk (kQB (g := gb1148) (o := .cells #[.int .i64 t1141, .int .i64 t1142, .slice Ao23 t1143.length co23, .int .i64 t1146] 49 (0, 0)) (by (with_reducible repeat (first | refine kQN ?_ _ | refine kQD ?_ | refine kQA ?_ _)); exact BK1148.out) hb)
      have n6_ := Aq.mk (kQB (g := gb1155) (o := .cells #[.int .i64 t1149, .int .i64 t1150, .slice Ao30 t1151.length co30, .int .i64 t1154] 49 (0, 0)) (by (with_reducible repeat (first | refine kQN ?_ _ | refine kQD ?_ | refine kQA ?_ _)); exact BK1155.out) hb)
      have n7_ := Aq.mk (kQB (g := gb1163) (o := .cells #[.int .i64 t1156, .int .i64 t1157, .slice Ao37 t1158.length co37, .int .i64 t1161] 49 (0, 0)) (by (with_reducible repeat (first | refine kQN ?_ _ | refine kQD ?_ | refine kQA ?_ _)); exact BK1163.out) hb)
      have n8_ := Aq.mk (bQT (by repeat (first | (with_reducible first | exact HB.out | apply bQA | apply bQN | apply bQ1 | refine bQS ?_ GE1133.out | refine bQS ?_ GE1148.out | refine bQS ?_ GE1155.out | refine bQS ?_ GE1163.out) | exact HB.out)) hb)
      clear HO_1149002
      clear HO_1156002
      clear HO_1164002
      clear BK1133
      clear BK1148
      clear BK1155
      clear BK1163
      clear HB
      have HO_1149002 := n0_
      have HO_1156002 := n1_
      have HO_1164002 := n2_
      have HO1169 := n3_
      have BK1133 := n4_
      have BK1148 := n5_
      have BK1155 := n6_
      have BK1163 := n7_
      have HB := n8_
      clear n0_ n1_ n2_ n3_ n4_ n5_ n6_ n7_ n8_
      (try clear hb)
      (try clear hb2)
      (try clear hk)
      (try clear hi)
      (try clear ho0)
      obtain ⟨Ao178, co178, eo178⟩ := Kd.R_slice HO1169.out
      (first | subst eo178 | (injection eo178 with f1_ f2_ f3_; have f4_ := f1_.symm; have f5_ := f3_.symm; clear f1_ f2_ f3_; subst f4_; subst f5_))
      refine hK.out _ _ ⟨(kQC BK1155.out 0).trans rfl, (kQC BK1155.out 1).trans rfl, (kQC BK1155.out 2).trans rfl, (kQC BK1155.out 3).trans rfl, (kQC BK1133.out 0).trans rfl, (kQC BK1133.out 1).trans rfl, (kQC BK1133.out 2).trans rfl, (kQC BK1133.out 3).trans rfl⟩ (fun hHeld => ?_)
      clear hK K
      refine norm_ (a' := ?_) ?_ ?_
      rotate_left
      ·show Act.put _ (some 47) _ = _
       simp only [Act.put, qSa, qSb, qSc, i64_w, i32_w]
       rfl
      refine one_ (i := 3) (N := some 48) #[true, true, true, true, false] rfl rfl (by kernel_rfl) (by decide) (fun K hK => ?_)
      refine goes_ Try.func39 (by kernel_rfl) rfl #[.agg #[.int .i64 t1149, .int .i64 t1150, .slice Ao30 t1151.length co30, .int .i64 t1154], .agg #[.int .i64 t1165, .int .i64 t1166, .slice Ao178 t1167.length co178, .int .i64 t1170]] (by rfl) rfl rfl (by (try simp only [List.map_toArray, List.map_cons, List.map_nil]); first | done | rfl | (simp only [List.length_drop, List.length_take]; rfl)) ?_
      with_reducible refine (laws_eqGabidulin.calls kj11 t1149 t1150 _ _ t1151 t1154 t1165 t1166 _ _ t1167 t1170 false _ ?side1 ?side2 ?side3 ?side4 A58.out).mono ?_
      (case side1 => repeat (first | exact (Kd.R_reads' HO_1156002.out).2.2 | (with_reducible refine Kd.CqA ?_ _) | (with_reducible refine Kd.CqN ?_ _) | (with_reducible refine Kd.CqD ?_)))
      (case side2 => exact (Kd.R_reads' HO_1156002.out).2.1)
      (case side3 => repeat (first | exact (Kd.R_reads' HO1169.out).2.2 | (with_reducible refine Kd.CqA ?_ _) | (with_reducible refine Kd.CqN ?_ _) | (with_reducible refine Kd.CqD ?_)))
      (case side4 => exact (Kd.R_reads' HO1169.out).2.1)
      rintro e w179 ⟨rfl, hb⟩
      refine ⟨_, rfl, ?_⟩
      have n0_ := Aq.mk (Kd.R_below (by (with_reducible repeat (first | apply Kd.RqA | apply Kd.RqN | apply Kd.RqD)); exact HO_1149002.out) hb)
      have n1_ := Aq.mk (Kd.R_below (by (with_reducible repeat (first | apply Kd.RqA | apply Kd.RqN | apply Kd.RqD)); exact HO_1156002.out) hb)
      have n2_ := Aq.mk (Kd.R_below (by (with_reducible repeat (first | apply Kd.RqA | apply Kd.RqN | apply Kd.RqD)); exact HO_1164002.out) hb)
      have n3_ := Aq.mk (Kd.R_below (by (with_reducible repeat (first | apply Kd.RqA | apply Kd.RqN | apply Kd.RqD)); exact HO1169.out) hb)
      have n4_ := Aq.mk (kQB (g := gb1133) (o := .cells #[.int .i64 a0_0, .int .i64 a0_1, .slice A0_2 l0_2.length c0_2, .int .i64 a0_3] 45 (0, 0)) (by (with_reducible repeat (first | refine kQN ?_ _ | refine kQD ?_ | refine kQA ?_ _)); exact BK1133.out) hb)
      have n5_ := Aq.mk (kQB (g := gb1148) (o := .cells #[.int .i64 t1141, .int .i64 t1142, .slice Ao23 t1143.length co23, .int .i64 t1146] 49 (0, 0)) (by (with_reducible repeat (first | refine kQN ?_ _ | refine kQD ?_ | refine kQA ?_ _)); exact BK1148.out) hb)
      have n6_ := Aq.mk (kQB (g := gb1155) (o := .cells #[.int .i64 t1149, .int .i64 t1150, .slice Ao30 t1151.length co30, .int .i64 t1154] 49 (0, 0)) (by (with_reducible repeat (first | refine kQN ?_ _ | refine kQD ?_ | refine kQA ?_ _)); exact BK1155.out) hb)
      have n7_ := Aq.mk (kQB (g := gb1163) (o := .cells #[.int .i64 t1156, .int .i64 t1157, .slice Ao37 t1158.length co37, .int .i64 t1161] 49 (0, 0)) (by (with_reducible repeat (first | refine kQN ?_ _ | refine kQD ?_ | refine kQA ?_ _)); exact BK1163.out) hb)
      have n8_ := Aq.mk (bQT (by repeat (first | (with_reducible first | exact HB.out | apply bQA | apply bQN | apply bQ1 | refine bQS ?_ GE1133.out | refine bQS ?_ GE1148.out | refine bQS ?_ GE1155.out | refine bQS ?_ GE1163.out) | exact HB.out)) hb)
      clear HO_1149002
      clear HO_1156002
      clear HO_1164002
      clear HO1169
      clear BK1133
      clear BK1148
      clear BK1155
      clear BK1163
      clear HB
      have HO_1149002 := n0_
      have HO_1156002 := n1_
      have HO_1164002 := n2_
      have HO1169 := n3_
      have BK1133 := n4_
      have BK1148 := n5_
      have BK1155 := n6_
      have BK1163 := n7_
      have HB := n8_
      clear n0_ n1_ n2_ n3_ n4_ n5_ n6_ n7_ n8_
      (try clear hb)
      (try clear hb2)
      (try clear hk)
      (try clear hi)
      refine hK.out _ _ ⟨(kQC BK1155.out 0).trans rfl, (kQC BK1155.out 1).trans rfl, (kQC BK1155.out 2).trans rfl, (kQC BK1155.out 3).trans rfl, (kQC BK1133.out 0).trans rfl, (kQC BK1133.out 1).trans rfl, (kQC BK1133.out 2).trans rfl, (kQC BK1133.out 3).trans rfl⟩ (fun hHeld => ?_)
      clear hK K
      refine norm_ (a' := ?_) ?_ ?_
      rotate_left
      ·show Act.put _ (some 48) _ = _
       simp only [Act.put, qSa, qSb, qSc, i64_w, i32_w]
       rfl
      refine pure_ (i := 4) (N := some 49) (v := ?_) (a' := ?_) #[true, true, true, true, true] rfl rfl (by kernel_rfl) (fun _ _ _ h => h) (Or.inl ⟨by rfl, ?_⟩) ?_ ?_
      rotate_left
      ·intro w'
       go_simp
       with_reducible rfl
      rotate_left
      ·simp only [Act.put, qSa, qSb, qSc, i64_w, i32_w]
       rfl
      refine done_ (by kernel_rfl) ?_
      try go_wp2
      go_ret
      exact ⟨by first | rfl | (simp [errW_none, errW_some] <;> rfl) | (simp [*, errW_none, errW_some] <;> rfl), by repeat (first | (with_reducible first | exact HB.out | apply bQA | apply bQN | apply bQ1 | refine bQS ?_ GE1133.out | refine bQS ?_ GE1148.out | refine bQS ?_ GE1155.out | refine bQS ?_ GE1163.out) | exact HB.out)⟩
end Go.Proofs.Ytngiionckbmkmaa.P
