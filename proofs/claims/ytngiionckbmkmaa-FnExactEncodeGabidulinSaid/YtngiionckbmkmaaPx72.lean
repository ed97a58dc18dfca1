/- Functions of the program and what they tell, as the printing program wrote it. -/
import Derived.Test.YtngiionckbmkmaaPx0
import Derived.Test.YtngiionckbmkmaaPx2
import Derived.Test.YtngiionckbmkmaaPx6
import Derived.Test.YtngiionckbmkmaaPx17
import Derived.Test.YtngiionckbmkmaaPx19
import Derived.Test.YtngiionckbmkmaaPx21
import Derived.Test.YtngiionckbmkmaaPx37
import Derived.Test.YtngiionckbmkmaaPx59
import Derived.Test.YtngiionckbmkmaaPx60
namespace Go.Proofs.Ytngiionckbmkmaa.P
open Go.Shelf Go.RowKit Go.Proofs.YtngiionckbmkmaaW.PrintWords Go.Proofs.YtngiionckbmkmaaW.PrintLast Go.Proofs.YtngiionckbmkmaaW.PrintMore
attribute [local go_sem] max2_int min2_int max_two min_two max_three min_three max_four min_four
set_option linter.unusedVariables false
set_option linter.unusedSimpArgs false
mutual
def laws_FnExactEncodeGabidulin.j0 : Nat → List Int → List Int → Int → List Int → List Int → Int → Bool → Int → Int → List Int → Int → Int → Int → List Int → Int → Option (Bool)
  | 0, _, _, _, _, _, _, _, _, _, _, _, _, _, _, _ => none
  | k + 1, x1, x6, x7, x9, x10, x11, x51, x1246000, x1246001, x1246002, x1246003, x1267000, x1267001, x1267002, x1267003 => if x51 = true then (some false) else ((laws_toGabidulin.f k x1246000 x1246001 x1246002 x1246003).bind fun bt1275 => ((laws_eqGabidulin.f k x1267000 x1267001 x1267002 x1267003 bt1275.1 bt1275.2.1 bt1275.2.2.1 bt1275.2.2.2).bind fun t1281 => (if t1281 = true then ((laws_toInt64S.f k x1).bind fun t1282 => ((laws_eqInt64S.f k x9 t1282).bind fun t1285 => (if t1285 = true then ((laws_markGabidulin.f k x1267000 x1267001 x1267002 x1267003 1).bind fun bt1286 => ((laws_markInt64S.f k x9 bt1286.1).bind fun bt1288 => (if bt1288.1 < 0 then (laws_FnExactEncodeGabidulin.j1 k x1 x6 x7 x10 true x1246000 x1246001 x1246002 x1246003) else ((laws_eqInt64S.f k x10 x6).bind fun t1290 => (if t1290 = true then (laws_FnExactEncodeGabidulin.j1 k x1 x6 x7 x10 (x11 != x7) x1246000 x1246001 x1246002 x1246003) else (laws_FnExactEncodeGabidulin.j1 k x1 x6 x7 x10 true x1246000 x1246001 x1246002 x1246003)))))) else (some false)))) else (some false))))
def laws_FnExactEncodeGabidulin.j1 : Nat → List Int → List Int → Int → List Int → Bool → Int → Int → List Int → Int → Option (Bool)
  | 0, _, _, _, _, _, _, _, _, _ => none
  | k + 1, x1, x6, x7, x10, x80, x1246000, x1246001, x1246002, x1246003 => if x80 = true then (some false) else ((laws_markInt64S.f k x10 1).bind fun bt1291 => ((laws_heldInt64S.f k bt1291.2 1).bind fun t1293 => (if t1293 < 0 then (some false) else (if t1293 = bt1291.1 then ((laws_toGabidulin.f k x1246000 x1246001 x1246002 x1246003).bind fun bt1294 => ((laws_toInt64S.f k x1).bind fun t1300 => ((impl_EncodeGabidulin.f k bt1294.1 bt1294.2.1 bt1294.2.2.1 bt1294.2.2.2 t1300).bind fun bt1303 => ((laws_eqInt64S.f k bt1303.1 x6).bind fun t1307 => (if t1307 = true then (laws_FnExactEncodeGabidulin.j2 k bt1291.2 bt1291.1 (bt1303.2 != x7)) else (laws_FnExactEncodeGabidulin.j2 k bt1291.2 bt1291.1 true)))))) else (some false)))))
def laws_FnExactEncodeGabidulin.j2 : Nat → List Int → Int → Bool → Option (Bool)
  | 0, _, _, _ => none
  | k + 1, x10, x13, x108 => if x108 = true then (some false) else ((laws_heldInt64S.f k x10 1).bind fun t1308 => (if t1308 < 0 then (some false) else (if t1308 = x13 then (some true) else (some false))))
end
def laws_FnExactEncodeGabidulin.f (k : Nat) (a0_0 : Int) (a0_1 : Int) (l0_2 : List Int) (a0_3 : Int) (l1 : List Int) : Option (Bool) := if (l1.length : Int) > 1048576 then (some true) else ((laws_szGabidulin.f a0_0 a0_1 l0_2 a0_3 1048576).bind fun t1246 => (if t1246 < 0 then (some true) else ((laws_toGabidulin.f k a0_0 a0_1 l0_2 a0_3).bind fun bt1247 => ((laws_toInt64S.f k l1).bind fun t1253 => ((spec_EncodeGabidulin.f k bt1247.1 bt1247.2.1 bt1247.2.2.1 bt1247.2.2.2 t1253).bind fun bt1256 => ((laws_toGabidulin.f k a0_0 a0_1 l0_2 a0_3).bind fun bt1260 => ((laws_toInt64S.f k l1).bind fun t1267 => ((impl_EncodeGabidulin.f k bt1260.1 bt1260.2.1 bt1260.2.2.1 bt1260.2.2.2 t1267).bind fun bt1270 => ((laws_eqInt64S.f k bt1270.1 bt1256.1).bind fun t1274 => (if t1274 = true then (laws_FnExactEncodeGabidulin.j0 k l1 bt1256.1 bt1256.2 t1267 bt1270.1 bt1270.2 (bt1270.2 != bt1256.2) a0_0 a0_1 l0_2 a0_3 bt1260.1 bt1260.2.1 bt1260.2.2.1 bt1260.2.2.2) else (laws_FnExactEncodeGabidulin.j0 k l1 bt1256.1 bt1256.2 t1267 bt1270.1 bt1270.2 true a0_0 a0_1 l0_2 a0_3 bt1260.1 bt1260.2.1 bt1260.2.2.1 bt1260.2.2.2)))))))))))
theorem laws_FnExactEncodeGabidulin.mono_l : ∀ k, (∀ y0 y1 y2 y3 y4 y5 y6 y7 y8 y9 y10 y11 y12 y13 y14, LeO (laws_FnExactEncodeGabidulin.j0 k y0 y1 y2 y3 y4 y5 y6 y7 y8 y9 y10 y11 y12 y13 y14) (laws_FnExactEncodeGabidulin.j0 (k + 1) y0 y1 y2 y3 y4 y5 y6 y7 y8 y9 y10 y11 y12 y13 y14)) ∧ (∀ y0 y1 y2 y3 y4 y5 y6 y7 y8, LeO (laws_FnExactEncodeGabidulin.j1 k y0 y1 y2 y3 y4 y5 y6 y7 y8) (laws_FnExactEncodeGabidulin.j1 (k + 1) y0 y1 y2 y3 y4 y5 y6 y7 y8)) ∧ (∀ y0 y1 y2, LeO (laws_FnExactEncodeGabidulin.j2 k y0 y1 y2) (laws_FnExactEncodeGabidulin.j2 (k + 1) y0 y1 y2))
 | 0 => ⟨fun _ _ _ _ _ _ _ _ _ _ _ _ _ _ _ r h => by simp [laws_FnExactEncodeGabidulin.j0] at h, fun _ _ _ _ _ _ _ _ _ r h => by simp [laws_FnExactEncodeGabidulin.j1] at h, fun _ _ _ r h => by simp [laws_FnExactEncodeGabidulin.j2] at h⟩
 | k + 1 => by
  obtain ⟨ih0, ih1, ih2⟩ := laws_FnExactEncodeGabidulin.mono_l k
  refine ⟨?_, ?_, ?_⟩
  ·intro y0 y1 y2 y3 y4 y5 y6 y7 y8 y9 y10 y11 y12 y13 y14
   unfold laws_FnExactEncodeGabidulin.j0
   repeat' first
   | (with_reducible first | exact ih0 _ _ _ _ _ _ _ _ _ _ _ _ _ _ _ | exact ih1 _ _ _ _ _ _ _ _ _ | exact ih2 _ _ _ | exact impl_EncodeGabidulin.mono _ _ _ _ _ _ | exact laws_eqGabidulin.mono _ _ _ _ _ _ _ _ _ | exact laws_eqInt64S.mono _ _ _ | exact laws_heldInt64S.mono _ _ _ | exact laws_markGabidulin.mono _ _ _ _ _ _ | exact laws_markInt64S.mono _ _ _ | exact laws_toGabidulin.mono _ _ _ _ _ | exact laws_toInt64S.mono _ _ | exact spec_EncodeGabidulin.mono _ _ _ _ _ _ | exact LeO.refl _ | exact LeO.none _ | refine LeO.ite ?_ ?_ | refine LeO.bind ?_ (fun _ => ?_))
   | exact LeO.none _
   | refine LeO.ite ?_ ?_
   | refine LeO.bind ?_ (fun _ => ?_)
  ·intro y0 y1 y2 y3 y4 y5 y6 y7 y8
   unfold laws_FnExactEncodeGabidulin.j1
   repeat' first
   | (with_reducible first | exact ih0 _ _ _ _ _ _ _ _ _ _ _ _ _ _ _ | exact ih1 _ _ _ _ _ _ _ _ _ | exact ih2 _ _ _ | exact impl_EncodeGabidulin.mono _ _ _ _ _ _ | exact laws_eqGabidulin.mono _ _ _ _ _ _ _ _ _ | exact laws_eqInt64S.mono _ _ _ | exact laws_heldInt64S.mono _ _ _ | exact laws_markGabidulin.mono _ _ _ _ _ _ | exact laws_markInt64S.mono _ _ _ | exact laws_toGabidulin.mono _ _ _ _ _ | exact laws_toInt64S.mono _ _ | exact spec_EncodeGabidulin.mono _ _ _ _ _ _ | exact LeO.refl _ | exact LeO.none _ | refine LeO.ite ?_ ?_ | refine LeO.bind ?_ (fun _ => ?_))
   | exact LeO.none _
   | refine LeO.ite ?_ ?_
   | refine LeO.bind ?_ (fun _ => ?_)
  ·intro y0 y1 y2
   unfold laws_FnExactEncodeGabidulin.j2
   repeat' first
   | (with_reducible first | exact ih0 _ _ _ _ _ _ _ _ _ _ _ _ _ _ _ | exact ih1 _ _ _ _ _ _ _ _ _ | exact ih2 _ _ _ | exact impl_EncodeGabidulin.mono _ _ _ _ _ _ | exact laws_eqGabidulin.mono _ _ _ _ _ _ _ _ _ | exact laws_eqInt64S.mono _ _ _ | exact laws_heldInt64S.mono _ _ _ | exact laws_markGabidulin.mono _ _ _ _ _ _ | exact laws_markInt64S.mono _ _ _ | exact laws_toGabidulin.mono _ _ _ _ _ | exact laws_toInt64S.mono _ _ | exact spec_EncodeGabidulin.mono _ _ _ _ _ _ | exact LeO.refl _ | exact LeO.none _ | refine LeO.ite ?_ ?_ | refine LeO.bind ?_ (fun _ => ?_))
   | exact LeO.none _
   | refine LeO.ite ?_ ?_
   | refine LeO.bind ?_ (fun _ => ?_)
theorem laws_FnExactEncodeGabidulin.mono : ∀ a0 a1 a2 a3 a4 k, LeO (laws_FnExactEncodeGabidulin.f k a0 a1 a2 a3 a4) (laws_FnExactEncodeGabidulin.f (k + 1) a0 a1 a2 a3 a4) := by
 intro a0 a1 a2 a3 a4 k
 obtain ⟨ih0, ih1, ih2⟩ := laws_FnExactEncodeGabidulin.mono_l k
 unfold laws_FnExactEncodeGabidulin.f
 repeat' first
  | (with_reducible first | exact ih0 _ _ _ _ _ _ _ _ _ _ _ _ _ _ _ | exact ih1 _ _ _ _ _ _ _ _ _ | exact ih2 _ _ _ | exact impl_EncodeGabidulin.mono _ _ _ _ _ _ | exact laws_eqGabidulin.mono _ _ _ _ _ _ _ _ _ | exact laws_eqInt64S.mono _ _ _ | exact laws_heldInt64S.mono _ _ _ | exact laws_markGabidulin.mono _ _ _ _ _ _ | exact laws_markInt64S.mono _ _ _ | exact laws_toGabidulin.mono _ _ _ _ _ | exact laws_toInt64S.mono _ _ | exact spec_EncodeGabidulin.mono _ _ _ _ _ _ | exact LeO.refl _ | exact LeO.none _ | refine LeO.ite ?_ ?_ | refine LeO.bind ?_ (fun _ => ?_))
  | exact LeO.none _
  | refine LeO.ite ?_ ?_
  | refine LeO.bind ?_ (fun _ => ?_)
set_option maxHeartbeats 8000000 in
set_option maxRecDepth 100000 in
theorem laws_FnExactEncodeGabidulin.calls (k : Nat) (a0_0 : Int) (a0_1 : Int) (A0_2 : Option Addr) (c0_2 : Nat) (l0_2 : List Int) (a0_3 : Int) (A1 : Option Addr) (c1 : Nat) (l1 : List Int) (r : Bool) (w : World) (hr0_2 : Kd.C (Kd.int .i64) w A0_2 l0_2.length l0_2) (hc0_2 : l0_2.length ≤ c0_2) (hr1 : Kd.C (Kd.int .i64) w A1 l1.length l1) (hc1 : l1.length ≤ c1) (h : laws_FnExactEncodeGabidulin.f k a0_0 a0_1 l0_2 a0_3 l1 = some r) :
 Calls Try.prog 16 #[.agg #[.int .i64 a0_0, .int .i64 a0_1, .slice A0_2 l0_2.length c0_2, .int .i64 a0_3], .slice A1 l1.length c1] w fun e w' => e = .returned (.bool r) ∧ Below w.heap.size w w' := by
 have hu45 := Try.underlying45
 have hu49 := Try.underlying49
 have HR0_2 := Aq.mk hr0_2
 have HC0_2 := Aq.mk hc0_2
 clear hr0_2 hc0_2
 have HR1 := Aq.mk hr1
 have HC1 := Aq.mk hc1
 clear hr1 hc1
 have HB := Aq.mk (Below.refl w.heap.size w)
 have H : (if (l1.length : Int) > 1048576 then (some true) else ((laws_szGabidulin.f a0_0 a0_1 l0_2 a0_3 1048576).bind fun t1246 => (if t1246 < 0 then (some true) else ((laws_toGabidulin.f k a0_0 a0_1 l0_2 a0_3).bind fun bt1247 => ((laws_toInt64S.f k l1).bind fun t1253 => ((spec_EncodeGabidulin.f k bt1247.1 bt1247.2.1 bt1247.2.2.1 bt1247.2.2.2 t1253).bind fun bt1256 => ((laws_toGabidulin.f k a0_0 a0_1 l0_2 a0_3).bind fun bt1260 => ((laws_toInt64S.f k l1).bind fun t1267 => ((impl_EncodeGabidulin.f k bt1260.1 bt1260.2.1 bt1260.2.2.1 bt1260.2.2.2 t1267).bind fun bt1270 => ((laws_eqInt64S.f k bt1270.1 bt1256.1).bind fun t1274 => (if t1274 = true then (laws_FnExactEncodeGabidulin.j0 k l1 bt1256.1 bt1256.2 t1267 bt1270.1 bt1270.2 (bt1270.2 != bt1256.2) a0_0 a0_1 l0_2 a0_3 bt1260.1 bt1260.2.1 bt1260.2.2.1 bt1260.2.2.2) else (laws_FnExactEncodeGabidulin.j0 k l1 bt1256.1 bt1256.2 t1267 bt1270.1 bt1270.2 true a0_0 a0_1 l0_2 a0_3 bt1260.1 bt1260.2.1 bt1260.2.2.1 bt1260.2.2.2)))))))))))) = some r := h
 clear h
 by_cases c3 : (l1.length : Int) > 1048576
 ·rw [if_pos c3] at H
  have c3b0 : decide (1048576 < (l1.length : Int)) = true := decide_eq_true c3
  have c3b1 : decide (1048576 < l1.length) = true := decide_eq_true (by omega)
  clear c3
  obtain rfl := Option.some.inj H
  go_enter Try.func16, Try.ntmps16
  go_wp2_with (first | ((with_reducible refine gQd (N := 2) rfl ?_); refine xQe ?hg (N := 2) ?hd (cs := #[.int .i64 a0_0, .int .i64 a0_1, .slice A0_2 l0_2.length c0_2, .int .i64 a0_3]) (t := 45) ?hr ?_; (case hd => rfl); (case hg => rfl); (case hr => first | (go_simp; done) | (go_simp; rfl)); intro gb1245 hg w4 hbox hb; have n0_ := Aq.mk (bQT (by repeat (first | (with_reducible first | exact HB.out | apply bQA | apply bQN | apply bQ1) | exact HB.out)) hb); have n1_ := Aq.mk (hbox); have n2_ := Aq.mk ((by rw [hg]; exact (bQZ (by repeat (first | (with_reducible first | exact HB.out | apply bQA | apply bQN | apply bQ1) | exact HB.out))) : w.heap.size ≤ gb1245)); have n3_ := Aq.mk ((by rw [hg]; exact (bQZ (by repeat (first | (with_reducible first | exact HB.out | apply bQA | apply bQN | apply bQ1) | exact HB.out))) : w.heap.size ≤ gb1245)); clear HB; have HB := n0_; have BK1245 := n1_; have GW1245 := n2_; have GE1245 := n3_; clear n0_ n1_ n2_ n3_; clear hb hbox hg))
  go_ret
  exact ⟨by first | rfl | (simp [errW_none, errW_some] <;> rfl) | (simp [*, errW_none, errW_some] <;> rfl), by repeat (first | (with_reducible first | exact HB.out | apply bQA | apply bQN | apply bQ1 | refine bQS ?_ GE1245.out) | exact HB.out)⟩
 ·rw [if_neg c3] at H
  have c3b0 : decide (1048576 < (l1.length : Int)) = false := decide_eq_false c3
  have c3b1 : decide (1048576 < l1.length) = false := decide_eq_false (by omega)
  clear c3
  replace H := Option.bind_eq_some_iff.mp H
  obtain ⟨t1246, A50, H⟩ := H
  replace H : (if t1246 < 0 then (some true) else ((laws_toGabidulin.f k a0_0 a0_1 l0_2 a0_3).bind fun bt1247 => ((laws_toInt64S.f k l1).bind fun t1253 => ((spec_EncodeGabidulin.f k bt1247.1 bt1247.2.1 bt1247.2.2.1 bt1247.2.2.2 t1253).bind fun bt1256 => ((laws_toGabidulin.f k a0_0 a0_1 l0_2 a0_3).bind fun bt1260 => ((laws_toInt64S.f k l1).bind fun t1267 => ((impl_EncodeGabidulin.f k bt1260.1 bt1260.2.1 bt1260.2.2.1 bt1260.2.2.2 t1267).bind fun bt1270 => ((laws_eqInt64S.f k bt1270.1 bt1256.1).bind fun t1274 => (if t1274 = true then (laws_FnExactEncodeGabidulin.j0 k l1 bt1256.1 bt1256.2 t1267 bt1270.1 bt1270.2 (bt1270.2 != bt1256.2) a0_0 a0_1 l0_2 a0_3 bt1260.1 bt1260.2.1 bt1260.2.2.1 bt1260.2.2.2) else (laws_FnExactEncodeGabidulin.j0 k l1 bt1256.1 bt1256.2 t1267 bt1270.1 bt1270.2 true a0_0 a0_1 l0_2 a0_3 bt1260.1 bt1260.2.1 bt1260.2.2.1 bt1260.2.2.2)))))))))) = some r := H
  have A5 := Aq.mk A50
  clear A50
  by_cases c6 : t1246 < 0
  ·rw [if_pos c6] at H
   have c6b0 : decide (t1246 < 0) = true := decide_eq_true c6
   clear c6
   obtain rfl := Option.some.inj H
   go_enter Try.func16, Try.ntmps16
   go_wp2_with (first | ((with_reducible refine gQd (N := 2) rfl ?_); refine xQe ?hg (N := 2) ?hd (cs := #[.int .i64 a0_0, .int .i64 a0_1, .slice A0_2 l0_2.length c0_2, .int .i64 a0_3]) (t := 45) ?hr ?_; (case hd => rfl); (case hg => rfl); (case hr => first | (go_simp; done) | (go_simp; rfl)); intro gb1245 hg w7 hbox hb; have n0_ := Aq.mk (bQT (by repeat (first | (with_reducible first | exact HB.out | apply bQA | apply bQN | apply bQ1) | exact HB.out)) hb); have n1_ := Aq.mk (hbox); have n2_ := Aq.mk ((by rw [hg]; exact (bQZ (by repeat (first | (with_reducible first | exact HB.out | apply bQA | apply bQN | apply bQ1) | exact HB.out))) : w.heap.size ≤ gb1245)); have n3_ := Aq.mk ((by rw [hg]; exact (bQZ (by repeat (first | (with_reducible first | exact HB.out | apply bQA | apply bQN | apply bQ1) | exact HB.out))) : w.heap.size ≤ gb1245)); clear HB; have HB := n0_; have BK1245 := n1_; have GW1245 := n2_; have GE1245 := n3_; clear n0_ n1_ n2_ n3_; clear hb hbox hg; have hcz8_0 : w7.cell? ⟨gb1245, 0, none⟩ = some (.int .i64 a0_0) := (kQC BK1245.out 0).trans rfl; have hcz8_1 : w7.cell? ⟨gb1245, 1, none⟩ = some (.int .i64 a0_1) := (kQC BK1245.out 1).trans rfl; have hcz8_2 : w7.cell? ⟨gb1245, 2, none⟩ = some (.slice A0_2 l0_2.length c0_2) := (kQC BK1245.out 2).trans rfl; have hcz8_3 : w7.cell? ⟨gb1245, 3, none⟩ = some (.int .i64 a0_3) := (kQC BK1245.out 3).trans rfl; have hfz8_0 := kQF BK1245.out 0; have hfz8_1 := kQF BK1245.out 1; have hfz8_2 := kQF BK1245.out 2; have hfz8_3 := kQF BK1245.out 3) | ((with_reducible refine gQc (f := 35) rfl ?_); refine goesL_ (some 22) rfl rfl Try.func35 (by kernel_rfl) rfl #[.agg #[.int .i64 a0_0, .int .i64 a0_1, .slice A0_2 l0_2.length c0_2, .int .i64 a0_3], .int .i64 1048576] rfl (by (try simp only [List.map_toArray, List.map_cons, List.map_nil]); first | done | rfl | (simp only [List.length_drop, List.length_take]; rfl)) ?_; (with_reducible refine (laws_szGabidulin.calls a0_0 a0_1 _ _ l0_2 a0_3 1048576 t1246 _ ?side1 ?side2 A5.out).mono ?_); (case side1 => repeat (first | exact (Kd.C_below HR0_2.out HB.out) | (with_reducible refine Kd.CqA ?_ _) | (with_reducible refine Kd.CqN ?_ _) | (with_reducible refine Kd.CqD ?_))); (case side2 => exact HC0_2.out); rintro e w9 ⟨rfl, hb⟩; refine ⟨_, rfl, ?_⟩; have n0_ := Aq.mk (kQB (g := gb1245) (o := .cells #[.int .i64 a0_0, .int .i64 a0_1, .slice A0_2 l0_2.length c0_2, .int .i64 a0_3] 45 (0, 0)) (by (with_reducible repeat (first | refine kQN ?_ _ | refine kQD ?_ | refine kQA ?_ _)); exact BK1245.out) hb); have n1_ := Aq.mk (bQT (by repeat (first | (with_reducible first | exact HB.out | apply bQA | apply bQN | apply bQ1 | refine bQS ?_ GE1245.out) | exact HB.out)) hb); clear BK1245; clear HB; have BK1245 := n0_; have HB := n1_; clear n0_ n1_; (try clear hb); (try clear hb2); (try clear hk); (try clear hi)))
   go_ret
   exact ⟨by first | rfl | (simp [errW_none, errW_some] <;> rfl) | (simp [*, errW_none, errW_some] <;> rfl), by repeat (first | (with_reducible first | exact HB.out | apply bQA | apply bQN | apply bQ1 | refine bQS ?_ GE1245.out) | exact HB.out)⟩
  ·rw [if_neg c6] at H
   have c6b0 : decide (t1246 < 0) = false := decide_eq_false c6
   clear c6
   replace H := Option.bind_eq_some_iff.mp H
   obtain ⟨⟨t1247, t1248, t1249, t1252⟩, A100, H⟩ := H
   replace H : ((laws_toInt64S.f k l1).bind fun t1253 => ((spec_EncodeGabidulin.f k t1247 t1248 t1249 t1252 t1253).bind fun bt1256 => ((laws_toGabidulin.f k a0_0 a0_1 l0_2 a0_3).bind fun bt1260 => ((laws_toInt64S.f k l1).bind fun t1267 => ((impl_EncodeGabidulin.f k bt1260.1 bt1260.2.1 bt1260.2.2.1 bt1260.2.2.2 t1267).bind fun bt1270 => ((laws_eqInt64S.f k bt1270.1 bt1256.1).bind fun t1274 => (if t1274 = true then (laws_FnExactEncodeGabidulin.j0 k l1 bt1256.1 bt1256.2 t1267 bt1270.1 bt1270.2 (bt1270.2 != bt1256.2) a0_0 a0_1 l0_2 a0_3 bt1260.1 bt1260.2.1 bt1260.2.2.1 bt1260.2.2.2) else (laws_FnExactEncodeGabidulin.j0 k l1 bt1256.1 bt1256.2 t1267 bt1270.1 bt1270.2 true a0_0 a0_1 l0_2 a0_3 bt1260.1 bt1260.2.1 bt1260.2.2.1 bt1260.2.2.2)))))))) = some r := H
   have A10 := Aq.mk A100
   clear A100
   replace H := Option.bind_eq_some_iff.mp H
   obtain ⟨t1253, A110, H⟩ := H
   replace H : ((spec_EncodeGabidulin.f k t1247 t1248 t1249 t1252 t1253).bind fun bt1256 => ((laws_toGabidulin.f k a0_0 a0_1 l0_2 a0_3).bind fun bt1260 => ((laws_toInt64S.f k l1).bind fun t1267 => ((impl_EncodeGabidulin.f k bt1260.1 bt1260.2.1 bt1260.2.2.1 bt1260.2.2.2 t1267).bind fun bt1270 => ((laws_eqInt64S.f k bt1270.1 bt1256.1).bind fun t1274 => (if t1274 = true then (laws_FnExactEncodeGabidulin.j0 k l1 bt1256.1 bt1256.2 t1267 bt1270.1 bt1270.2 (bt1270.2 != bt1256.2) a0_0 a0_1 l0_2 a0_3 bt1260.1 bt1260.2.1 bt1260.2.2.1 bt1260.2.2.2) else (laws_FnExactEncodeGabidulin.j0 k l1 bt1256.1 bt1256.2 t1267 bt1270.1 bt1270.2 true a0_0 a0_1 l0_2 a0_3 bt1260.1 bt1260.2.1 bt1260.2.2.1 bt1260.2.2.2))))))) = some r := H
   have A11 := Aq.mk A110
   clear A110
   replace H := Option.bind_eq_some_iff.mp H
   obtain ⟨⟨t1256, t1259⟩, A120, H⟩ := H
   replace H : ((laws_toGabidulin.f k a0_0 a0_1 l0_2 a0_3).bind fun bt1260 => ((laws_toInt64S.f k l1).bind fun t1267 => ((impl_EncodeGabidulin.f k bt1260.1 bt1260.2.1 bt1260.2.2.1 bt1260.2.2.2 t1267).bind fun bt1270 => ((laws_eqInt64S.f k bt1270.1 t1256).bind fun t1274 => (if t1274 = true then (laws_FnExactEncodeGabidulin.j0 k l1 t1256 t1259 t1267 bt1270.1 bt1270.2 (bt1270.2 != t1259) a0_0 a0_1 l0_2 a0_3 bt1260.1 bt1260.2.1 bt1260.2.2.1 bt1260.2.2.2) else (laws_FnExactEncodeGabidulin.j0 k l1 t1256 t1259 t1267 bt1270.1 bt1270.2 true a0_0 a0_1 l0_2 a0_3 bt1260.1 bt1260.2.1 bt1260.2.2.1 bt1260.2.2.2)))))) = some r := H
   have A12 := Aq.mk A120
   clear A120
   replace H := Option.bind_eq_some_iff.mp H
   obtain ⟨⟨t1260, t1261, t1262, t1265⟩, A130, H⟩ := H
   replace H : ((laws_toInt64S.f k l1).bind fun t1267 => ((impl_EncodeGabidulin.f k t1260 t1261 t1262 t1265 t1267).bind fun bt1270 => ((laws_eqInt64S.f k bt1270.1 t1256).bind fun t1274 => (if t1274 = true then (laws_FnExactEncodeGabidulin.j0 k l1 t1256 t1259 t1267 bt1270.1 bt1270.2 (bt1270.2 != t1259) a0_0 a0_1 l0_2 a0_3 t1260 t1261 t1262 t1265) else (laws_FnExactEncodeGabidulin.j0 k l1 t1256 t1259 t1267 bt1270.1 bt1270.2 true a0_0 a0_1 l0_2 a0_3 t1260 t1261 t1262 t1265))))) = some r := H
   have A13 := Aq.mk A130
   clear A130
   replace H := Option.bind_eq_some_iff.mp H
   obtain ⟨t1267, A140, H⟩ := H
   replace H : ((impl_EncodeGabidulin.f k t1260 t1261 t1262 t1265 t1267).bind fun bt1270 => ((laws_eqInt64S.f k bt1270.1 t1256).bind fun t1274 => (if t1274 = true then (laws_FnExactEncodeGabidulin.j0 k l1 t1256 t1259 t1267 bt1270.1 bt1270.2 (bt1270.2 != t1259) a0_0 a0_1 l0_2 a0_3 t1260 t1261 t1262 t1265) else (laws_FnExactEncodeGabidulin.j0 k l1 t1256 t1259 t1267 bt1270.1 bt1270.2 true a0_0 a0_1 l0_2 a0_3 t1260 t1261 t1262 t1265)))) = some r := H
   have A14 := Aq.mk A140
   clear A140
   replace H := Option.bind_eq_some_iff.mp H
   obtain ⟨⟨t1270, t1273⟩, A150, H⟩ := H
   replace H : ((laws_eqInt64S.f k t1270 t1256).bind fun t1274 => (if t1274 = true then (laws_FnExactEncodeGabidulin.j0 k l1 t1256 t1259 t1267 t1270 t1273 (t1273 != t1259) a0_0 a0_1 l0_2 a0_3 t1260 t1261 t1262 t1265) else (laws_FnExactEncodeGabidulin.j0 k l1 t1256 t1259 t1267 t1270 t1273 true a0_0 a0_1 l0_2 a0_3 t1260 t1261 t1262 t1265))) = some r := H
   have A15 := Aq.mk A150
   clear A150
   have HC16 := Aq.mk H
   clear H
   go_enter Try.func16, Try.ntmps16
   go_upto_region 11 with (first | ((with_reducible refine gQd (N := 2) rfl ?_); refine xQe ?hg (N := 2) ?hd (cs := #[.int .i64 a0_0, .int .i64 a0_1, .slice A0_2 l0_2.length c0_2, .int .i64 a0_3]) (t := 45) ?hr ?_; (case hd => rfl); (case hg => rfl); (case hr => first | (go_simp; done) | (go_simp; rfl)); intro gb1245 hg w17 hbox hb; have n0_ := Aq.mk (bQT (by repeat (first | (with_reducible first | exact HB.out | apply bQA | apply bQN | apply bQ1) | exact HB.out)) hb); have n1_ := Aq.mk (hbox); have n2_ := Aq.mk ((by rw [hg]; exact (bQZ (by repeat (first | (with_reducible first | exact HB.out | apply bQA | apply bQN | apply bQ1) | exact HB.out))) : w.heap.size ≤ gb1245)); have n3_ := Aq.mk ((by rw [hg]; exact (bQZ (by repeat (first | (with_reducible first | exact HB.out | apply bQA | apply bQN | apply bQ1) | exact HB.out))) : w.heap.size ≤ gb1245)); clear HB; have HB := n0_; have BK1245 := n1_; have GW1245 := n2_; have GE1245 := n3_; clear n0_ n1_ n2_ n3_; clear hb hbox hg; have hcz18_0 : w17.cell? ⟨gb1245, 0, none⟩ = some (.int .i64 a0_0) := (kQC BK1245.out 0).trans rfl; have hcz18_1 : w17.cell? ⟨gb1245, 1, none⟩ = some (.int .i64 a0_1) := (kQC BK1245.out 1).trans rfl; have hcz18_2 : w17.cell? ⟨gb1245, 2, none⟩ = some (.slice A0_2 l0_2.length c0_2) := (kQC BK1245.out 2).trans rfl; have hcz18_3 : w17.cell? ⟨gb1245, 3, none⟩ = some (.int .i64 a0_3) := (kQC BK1245.out 3).trans rfl; have hfz18_0 := kQF BK1245.out 0; have hfz18_1 := kQF BK1245.out 1; have hfz18_2 := kQF BK1245.out 2; have hfz18_3 := kQF BK1245.out 3) | ((with_reducible refine gQc (f := 35) rfl ?_); refine goesL_ (some 22) rfl rfl Try.func35 (by kernel_rfl) rfl #[.agg #[.int .i64 a0_0, .int .i64 a0_1, .slice A0_2 l0_2.length c0_2, .int .i64 a0_3], .int .i64 1048576] rfl (by (try simp only [List.map_toArray, List.map_cons, List.map_nil]); first | done | rfl | (simp only [List.length_drop, List.length_take]; rfl)) ?_; (with_reducible refine (laws_szGabidulin.calls a0_0 a0_1 _ _ l0_2 a0_3 1048576 t1246 _ ?side1 ?side2 A5.out).mono ?_); (case side1 => repeat (first | exact (Kd.C_below HR0_2.out HB.out) | (with_reducible refine Kd.CqA ?_ _) | (with_reducible refine Kd.CqN ?_ _) | (with_reducible refine Kd.CqD ?_))); (case side2 => exact HC0_2.out); rintro e w19 ⟨rfl, hb⟩; refine ⟨_, rfl, ?_⟩; have n0_ := Aq.mk (kQB (g := gb1245) (o := .cells #[.int .i64 a0_0, .int .i64 a0_1, .slice A0_2 l0_2.length c0_2, .int .i64 a0_3] 45 (0, 0)) (by (with_reducible repeat (first | refine kQN ?_ _ | refine kQD ?_ | refine kQA ?_ _)); exact BK1245.out) hb); have n1_ := Aq.mk (bQT (by repeat (first | (with_reducible first | exact HB.out | apply bQA | apply bQN | apply bQ1 | refine bQS ?_ GE1245.out) | exact HB.out)) hb); clear BK1245; clear HB; have BK1245 := n0_; have HB := n1_; clear n0_ n1_; (try clear hb); (try clear hb2); (try clear hk); (try clear hi); have hcz20_0 : w19.cell? ⟨gb1245, 0, none⟩ = some (.int .i64 a0_0) := (kQC BK1245.out 0).trans rfl; have hcz20_1 : w19.cell? ⟨gb1245, 1, none⟩ = some (.int .i64 a0_1) := (kQC BK1245.out 1).trans rfl; have hcz20_2 : w19.cell? ⟨gb1245, 2, none⟩ = some (.slice A0_2 l0_2.length c0_2) := (kQC BK1245.out 2).trans rfl; have hcz20_3 : w19.cell? ⟨gb1245, 3, none⟩ = some (.int .i64 a0_3) := (kQC BK1245.out 3).trans rfl; have hfz20_0 := kQF BK1245.out 0; have hfz20_1 := kQF BK1245.out 1; have hfz20_2 := kQF BK1245.out 2; have hfz20_3 := kQF BK1245.out 3) | ((with_reducible refine gQc (f := 37) rfl ?_); refine goesL_ (some 27) rfl rfl Try.func37 (by kernel_rfl) rfl #[.agg #[.int .i64 a0_0, .int .i64 a0_1, .slice A0_2 l0_2.length c0_2, .int .i64 a0_3]] rfl (by (try simp only [List.map_toArray, List.map_cons, List.map_nil]); first | done | rfl | (simp only [List.length_drop, List.length_take]; rfl)) ?_; (with_reducible refine (laws_toGabidulin.calls k a0_0 a0_1 _ _ l0_2 a0_3 t1247 t1248 t1249 t1252 _ ?side1 ?side2 A10.out).mono ?_); (case side1 => repeat (first | exact (Kd.C_below HR0_2.out HB.out) | (with_reducible refine Kd.CqA ?_ _) | (with_reducible refine Kd.CqN ?_ _) | (with_reducible refine Kd.CqD ?_))); (case side2 => exact HC0_2.out); rintro e w21 ⟨v1250, rfl, ho0, hb⟩; refine ⟨_, rfl, ?_⟩; have n0_ := Aq.mk (Kd.R_lower ho0 (bQZ (by repeat (first | (with_reducible first | exact HB.out | apply bQA | apply bQN | apply bQ1 | refine bQS ?_ GE1245.out) | exact HB.out)))); have n1_ := Aq.mk (kQB (g := gb1245) (o := .cells #[.int .i64 a0_0, .int .i64 a0_1, .slice A0_2 l0_2.length c0_2, .int .i64 a0_3] 45 (0, 0)) (by (with_reducible repeat (first | refine kQN ?_ _ | refine kQD ?_ | refine kQA ?_ _)); exact BK1245.out) hb); have n2_ := Aq.mk (bQT (by repeat (first | (with_reducible first | exact HB.out | apply bQA | apply bQN | apply bQ1 | refine bQS ?_ GE1245.out) | exact HB.out)) hb); clear BK1245; clear HB; have HO1251 := n0_; have BK1245 := n1_; have HB := n2_; clear n0_ n1_ n2_; (try clear hb); (try clear hb2); (try clear hk); (try clear hi); (try clear ho0)) | ((with_reducible refine gQc (f := 19) rfl ?_); refine goesL_ (some 29) rfl rfl Try.func19 (by kernel_rfl) rfl #[.slice A1 l1.length c1] rfl (by (try simp only [List.map_toArray, List.map_cons, List.map_nil]); first | done | rfl | (simp only [List.length_drop, List.length_take]; rfl)) ?_; (with_reducible refine (laws_toInt64S.calls k _ _ l1 t1253 _ ?side1 ?side2 A11.out).mono ?_); (case side1 => repeat (first | exact (Kd.C_below HR1.out HB.out) | (with_reducible refine Kd.CqA ?_ _) | (with_reducible refine Kd.CqN ?_ _) | (with_reducible refine Kd.CqD ?_))); (case side2 => exact HC1.out); rintro e w22 ⟨v1254, rfl, ho0, hb⟩; refine ⟨_, rfl, ?_⟩; have n0_ := Aq.mk (Kd.R_elder' (by (with_reducible repeat (first | apply Kd.RqA | apply Kd.RqN | apply Kd.RqD)); exact HO1251.out) (Kd.R_base ho0) hb); have n1_ := Aq.mk (Kd.R_lower (Kd.R_new' ho0 (Kd.R_lt (by (with_reducible repeat (first | apply Kd.RqA | apply Kd.RqN | apply Kd.RqD)); exact HO1251.out))) (bQZ (by repeat (first | (with_reducible first | exact HB.out | apply bQA | apply bQN | apply bQ1 | refine bQS ?_ GE1245.out) | exact HB.out)))); have n2_ := Aq.mk (kQB (g := gb1245) (o := .cells #[.int .i64 a0_0, .int .i64 a0_1, .slice A0_2 l0_2.length c0_2, .int .i64 a0_3] 45 (0, 0)) (by (with_reducible repeat (first | refine kQN ?_ _ | refine kQD ?_ | refine kQA ?_ _)); exact BK1245.out) hb); have n3_ := Aq.mk (bQT (by repeat (first | (with_reducible first | exact HB.out | apply bQA | apply bQN | apply bQ1 | refine bQS ?_ GE1245.out) | exact HB.out)) hb); clear HO1251; clear BK1245; clear HB; have HO1251 := n0_; have HO1255 := n1_; have BK1245 := n2_; have HB := n3_; clear n0_ n1_ n2_ n3_; (try clear hb); (try clear hb2); (try clear hk); (try clear hi); (try clear ho0); obtain ⟨Ao23, co23, eo23⟩ := Kd.R_slice HO1251.out; subst eo23; obtain ⟨Ao24, co24, eo24⟩ := Kd.R_slice HO1255.out; subst eo24) | ((with_reducible refine gQc (f := 63) rfl ?_); refine goesL_ (some 30) rfl rfl Try.func63 (by kernel_rfl) rfl #[.agg #[.int .i64 t1247, .int .i64 t1248, .slice Ao23 t1249.length co23, .int .i64 t1252], .slice Ao24 t1253.length co24] rfl (by (try simp only [List.map_toArray, List.map_cons, List.map_nil]); first | done | rfl | (simp only [List.length_drop, List.length_take]; rfl)) ?_; (with_reducible refine (spec_EncodeGabidulin.calls k t1247 t1248 _ _ t1249 t1252 _ _ t1253 t1256 t1259 _ ?side1 ?side2 ?side3 ?side4 A12.out).mono ?_); (case side1 => repeat (first | exact (Kd.R_reads' HO1251.out).2.2 | (with_reducible refine Kd.CqA ?_ _) | (with_reducible refine Kd.CqN ?_ _) | (with_reducible refine Kd.CqD ?_))); (case side2 => exact (Kd.R_reads' HO1251.out).2.1); (case side3 => repeat (first | exact (Kd.R_reads' HO1255.out).2.2 | (with_reducible refine Kd.CqA ?_ _) | (with_reducible refine Kd.CqN ?_ _) | (with_reducible refine Kd.CqD ?_))); (case side4 => exact (Kd.R_reads' HO1255.out).2.1); rintro e w25 ⟨v1257, rfl, ho0, hb⟩; refine ⟨_, rfl, ?_⟩; have n0_ := Aq.mk (Kd.R_elder' (by (with_reducible repeat (first | apply Kd.RqA | apply Kd.RqN | apply Kd.RqD)); exact HO1251.out) (Kd.R_base ho0) hb); have n1_ := Aq.mk (Kd.R_elder' (by (with_reducible repeat (first | apply Kd.RqA | apply Kd.RqN | apply Kd.RqD)); exact HO1255.out) (Kd.R_base ho0) hb); have n2_ := Aq.mk (Kd.R_lower (Kd.R_new' (Kd.R_new' ho0 (Kd.R_lt (by (with_reducible repeat (first | apply Kd.RqA | apply Kd.RqN | apply Kd.RqD)); exact HO1251.out))) (Kd.R_lt (by (with_reducible repeat (first | apply Kd.RqA | apply Kd.RqN | apply Kd.RqD)); exact HO1255.out))) (bQZ (by repeat (first | (with_reducible first | exact HB.out | apply bQA | apply bQN | apply bQ1 | refine bQS ?_ GE1245.out) | exact HB.out)))); have n3_ := Aq.mk (kQB (g := gb1245) (o := .cells #[.int .i64 a0_0, .int .i64 a0_1, .slice A0_2 l0_2.length c0_2, .int .i64 a0_3] 45 (0, 0)) (by (with_reducible repeat (first | refine kQN ?_ _ | refine kQD ?_ | refine kQA ?_ _)); exact BK1245.out) hb); have n4_ := Aq.mk (bQT (by repeat (first | (with_reducible first | exact HB.out | apply bQA | apply bQN | apply bQ1 | refine bQS ?_ GE1245.out) | exact HB.out)) hb); clear HO1251; clear HO1255; clear BK1245; clear HB; have HO1251 := n0_; have HO1255 := n1_; have HO1258 := n2_; have BK1245 := n3_; have HB := n4_; clear n0_ n1_ n2_ n3_ n4_; (try clear hb); (try clear hb2); (try clear hk); (try clear hi); (try clear ho0); have hcz26_0 : w25.cell? ⟨gb1245, 0, none⟩ = some (.int .i64 a0_0) := (kQC BK1245.out 0).trans rfl; have hcz26_1 : w25.cell? ⟨gb1245, 1, none⟩ = some (.int .i64 a0_1) := (kQC BK1245.out 1).trans rfl; have hcz26_2 : w25.cell? ⟨gb1245, 2, none⟩ = some (.slice A0_2 l0_2.length c0_2) := (kQC BK1245.out 2).trans rfl; have hcz26_3 : w25.cell? ⟨gb1245, 3, none⟩ = some (.int .i64 a0_3) := (kQC BK1245.out 3).trans rfl; have hfz26_0 := kQF BK1245.out 0; have hfz26_1 := kQF BK1245.out 1; have hfz26_2 := kQF BK1245.out 2; have hfz26_3 := kQF BK1245.out 3) | ((with_reducible refine gQc (f := 37) rfl ?_); refine goesL_ (some 34) rfl rfl Try.func37 (by kernel_rfl) rfl #[.agg #[.int .i64 a0_0, .int .i64 a0_1, .slice A0_2 l0_2.length c0_2, .int .i64 a0_3]] rfl (by (try simp only [List.map_toArray, List.map_cons, List.map_nil]); first | done | rfl | (simp only [List.length_drop, List.length_take]; rfl)) ?_; (with_reducible refine (laws_toGabidulin.calls k a0_0 a0_1 _ _ l0_2 a0_3 t1260 t1261 t1262 t1265 _ ?side1 ?side2 A13.out).mono ?_); (case side1 => repeat (first | exact (Kd.C_below HR0_2.out HB.out) | (with_reducible refine Kd.CqA ?_ _) | (with_reducible refine Kd.CqN ?_ _) | (with_reducible refine Kd.CqD ?_))); (case side2 => exact HC0_2.out); rintro e w27 ⟨v1263, rfl, ho0, hb⟩; refine ⟨_, rfl, ?_⟩; have n0_ := Aq.mk (Kd.R_elder' (by (with_reducible repeat (first | apply Kd.RqA | apply Kd.RqN | apply Kd.RqD)); exact HO1251.out) (Kd.R_base ho0) hb); have n1_ := Aq.mk (Kd.R_elder' (by (with_reducible repeat (first | apply Kd.RqA | apply Kd.RqN | apply Kd.RqD)); exact HO1255.out) (Kd.R_base ho0) hb); have n2_ := Aq.mk (Kd.R_elder' (by (with_reducible repeat (first | apply Kd.RqA | apply Kd.RqN | apply Kd.RqD)); exact HO1258.out) (Kd.R_base ho0) hb); have n3_ := Aq.mk (Kd.R_lower (Kd.R_new' (Kd.R_new' (Kd.R_new' ho0 (Kd.R_lt (by (with_reducible repeat (first | apply Kd.RqA | apply Kd.RqN | apply Kd.RqD)); exact HO1251.out))) (Kd.R_lt (by (with_reducible repeat (first | apply Kd.RqA | apply Kd.RqN | apply Kd.RqD)); exact HO1255.out))) (Kd.R_lt (by (with_reducible repeat (first | apply Kd.RqA | apply Kd.RqN | apply Kd.RqD)); exact HO1258.out))) (bQZ (by repeat (first | (with_reducible first | exact HB.out | apply bQA | apply bQN | apply bQ1 | refine bQS ?_ GE1245.out) | exact HB.out)))); have n4_ := Aq.mk (kQB (g := gb1245) (o := .cells #[.int .i64 a0_0, .int .i64 a0_1, .slice A0_2 l0_2.length c0_2, .int .i64 a0_3] 45 (0, 0)) (by (with_reducible repeat (first | refine kQN ?_ _ | refine kQD ?_ | refine kQA ?_ _)); exact BK1245.out) hb); have n5_ := Aq.mk (bQT (by repeat (first | (with_reducible first | exact HB.out | apply bQA | apply bQN | apply bQ1 | refine bQS ?_ GE1245.out) | exact HB.out)) hb); clear HO1251; clear HO1255; clear HO1258; clear BK1245; clear HB; have HO1251 := n0_; have HO1255 := n1_; have HO1258 := n2_; have HO1264 := n3_; have BK1245 := n4_; have HB := n5_; clear n0_ n1_ n2_ n3_ n4_ n5_; (try clear hb); (try clear hb2); (try clear hk); (try clear hi); (try clear ho0)) | ((with_reducible refine gQd (N := 8) rfl ?_); refine xQe ?hg (N := 8) ?hd (cs := #[.int .i64 0, .int .i64 0, .slice none 0 0, .int .i64 0]) (t := 49) ?hr ?_; (case hd => rfl); (case hg => rfl); (case hr => first | (go_simp; done) | (go_simp; rfl)); intro gb1266 hg w28 hbox hb; have n0_ := Aq.mk (Kd.R_below (by (with_reducible repeat (first | apply Kd.RqA | apply Kd.RqN | apply Kd.RqD)); exact HO1251.out) hb); have n1_ := Aq.mk (Kd.R_below (by (with_reducible repeat (first | apply Kd.RqA | apply Kd.RqN | apply Kd.RqD)); exact HO1255.out) hb); have n2_ := Aq.mk (Kd.R_below (by (with_reducible repeat (first | apply Kd.RqA | apply Kd.RqN | apply Kd.RqD)); exact HO1258.out) hb); have n3_ := Aq.mk (Kd.R_below (by (with_reducible repeat (first | apply Kd.RqA | apply Kd.RqN | apply Kd.RqD)); exact HO1264.out) hb); have n4_ := Aq.mk (kQB (g := gb1245) (o := .cells #[.int .i64 a0_0, .int .i64 a0_1, .slice A0_2 l0_2.length c0_2, .int .i64 a0_3] 45 (0, 0)) (by (with_reducible repeat (first | refine kQN ?_ _ | refine kQD ?_ | refine kQA ?_ _)); exact BK1245.out) hb); have n5_ := Aq.mk (bQT (by repeat (first | (with_reducible first | exact HB.out | apply bQA | apply bQN | apply bQ1 | refine bQS ?_ GE1245.out) | exact HB.out)) hb); have n6_ := Aq.mk (hbox); have n7_ := Aq.mk ((by rw [hg]; exact (bQZ (by repeat (first | (with_reducible first | exact HB.out | apply bQA | apply bQN | apply bQ1 | refine bQS ?_ GE1245.out) | exact HB.out))) : w.heap.size ≤ gb1266)); have n8_ := Aq.mk ((by rw [hg]; exact (bQZ (by repeat (first | (with_reducible first | exact HB.out | apply bQA | apply bQN | apply bQ1 | refine bQS ?_ GE1245.out) | exact HB.out))) : w.heap.size ≤ gb1266)); have n9_ := Aq.mk ((by rw [hg]; exact Nat.ne_of_lt (blk_lt (g := gb1245) (o := .cells #[.int .i64 a0_0, .int .i64 a0_1, .slice A0_2 l0_2.length c0_2, .int .i64 a0_3] 45 (0, 0)) (by (with_reducible repeat (first | refine kQN ?_ _ | refine kQD ?_ | refine kQA ?_ _)); exact BK1245.out)) : gb1245 ≠ gb1266)); have n10_ := Aq.mk ((by rw [hg]; exact Nat.ne_of_gt (blk_lt (g := gb1245) (o := .cells #[.int .i64 a0_0, .int .i64 a0_1, .slice A0_2 l0_2.length c0_2, .int .i64 a0_3] 45 (0, 0)) (by (with_reducible repeat (first | refine kQN ?_ _ | refine kQD ?_ | refine kQA ?_ _)); exact BK1245.out)) : gb1266 ≠ gb1245)); clear HO1251; clear HO1255; clear HO1258; clear HO1264; clear BK1245; clear HB; have HO1251 := n0_; have HO1255 := n1_; have HO1258 := n2_; have HO1264 := n3_; have BK1245 := n4_; have HB := n5_; have BK1266 := n6_; have GW1266 := n7_; have GE1266 := n8_; have NB1245_1266 := n9_; have NB1266_1245 := n10_; clear n0_ n1_ n2_ n3_ n4_ n5_ n6_ n7_ n8_ n9_ n10_; clear hb hbox hg; have hnb29 := NB1266_1245.out; have hnc29 := NB1245_1266.out; have hcz30_0 : w28.cell? ⟨gb1266, 0, none⟩ = some (.int .i64 0) := (kQC BK1266.out 0).trans rfl; have hcz30_1 : w28.cell? ⟨gb1266, 1, none⟩ = some (.int .i64 0) := (kQC BK1266.out 1).trans rfl; have hcz30_2 : w28.cell? ⟨gb1266, 2, none⟩ = some (.slice none 0 0) := (kQC BK1266.out 2).trans rfl; have hcz30_3 : w28.cell? ⟨gb1266, 3, none⟩ = some (.int .i64 0) := (kQC BK1266.out 3).trans rfl; have hfz30_0 := kQF BK1266.out 0; have hfz30_1 := kQF BK1266.out 1; have hfz30_2 := kQF BK1266.out 2; have hfz30_3 := kQF BK1266.out 3; obtain ⟨Ao31, co31, eo31⟩ := Kd.R_slice HO1264.out; subst eo31) | ((with_reducible refine gQc (f := 19) rfl ?_); refine goesL_ (some 36) rfl rfl Try.func19 (by kernel_rfl) rfl #[.slice A1 l1.length c1] rfl (by (try simp only [List.map_toArray, List.map_cons, List.map_nil]); first | done | rfl | (simp only [List.length_drop, List.length_take]; rfl)) ?_; (with_reducible refine (laws_toInt64S.calls k _ _ l1 t1267 _ ?side1 ?side2 A14.out).mono ?_); (case side1 => exact Kd.C_below HR1.out (by repeat (first | (with_reducible first | exact HB.out | apply bQA | apply bQN | apply bQ1 | refine bQS ?_ GE1245.out | refine bQS ?_ GE1266.out) | exact HB.out))); (case side2 => exact HC1.out); rintro e w32 ⟨v1268, rfl, ho0, hb⟩; refine ⟨_, rfl, ?_⟩; have n0_ := Aq.mk (Kd.R_elder' (by (with_reducible repeat (first | apply Kd.RqA | apply Kd.RqN | apply Kd.RqD)); exact (Kd.R_mono (Kd.R_far (p := ⟨gb1266, 3, none⟩) (Kd.R_far (p := ⟨gb1266, 2, none⟩) (Kd.R_far (p := ⟨gb1266, 1, none⟩) (Kd.R_far (p := ⟨gb1266, 0, none⟩) (Kd.R_types HO1251.out BK1266.out (by decide)) (fun _ hk => hk.2) (.int .i64 t1260)) (fun _ hk => hk.2) (.int .i64 t1261)) (fun _ hk => hk.2) (.slice Ao31 t1262.length co31)) (fun _ hk => hk.2) (.int .i64 t1265)) (fun _ h_ => h_.1))) (Kd.R_base ho0) hb); have n1_ := Aq.mk (Kd.R_elder' (by (with_reducible repeat (first | apply Kd.RqA | apply Kd.RqN | apply Kd.RqD)); exact (Kd.R_mono (Kd.R_far (p := ⟨gb1266, 3, none⟩) (Kd.R_far (p := ⟨gb1266, 2, none⟩) (Kd.R_far (p := ⟨gb1266, 1, none⟩) (Kd.R_far (p := ⟨gb1266, 0, none⟩) (Kd.R_types HO1255.out BK1266.out (by decide)) (fun _ hk => hk.2) (.int .i64 t1260)) (fun _ hk => hk.2) (.int .i64 t1261)) (fun _ hk => hk.2) (.slice Ao31 t1262.length co31)) (fun _ hk => hk.2) (.int .i64 t1265)) (fun _ h_ => h_.1))) (Kd.R_base ho0) hb); have n2_ := Aq.mk (Kd.R_elder' (by (with_reducible repeat (first | apply Kd.RqA | apply Kd.RqN | apply Kd.RqD)); exact (Kd.R_mono (Kd.R_far (p := ⟨gb1266, 3, none⟩) (Kd.R_far (p := ⟨gb1266, 2, none⟩) (Kd.R_far (p := ⟨gb1266, 1, none⟩) (Kd.R_far (p := ⟨gb1266, 0, none⟩) (Kd.R_types HO1258.out BK1266.out (by decide)) (fun _ hk => hk.2) (.int .i64 t1260)) (fun _ hk => hk.2) (.int .i64 t1261)) (fun _ hk => hk.2) (.slice Ao31 t1262.length co31)) (fun _ hk => hk.2) (.int .i64 t1265)) (fun _ h_ => h_.1))) (Kd.R_base ho0) hb); have n3_ := Aq.mk (Kd.R_elder' (by (with_reducible repeat (first | apply Kd.RqA | apply Kd.RqN | apply Kd.RqD)); exact (Kd.R_mono (Kd.R_far (p := ⟨gb1266, 3, none⟩) (Kd.R_far (p := ⟨gb1266, 2, none⟩) (Kd.R_far (p := ⟨gb1266, 1, none⟩) (Kd.R_far (p := ⟨gb1266, 0, none⟩) (Kd.R_types HO1264.out BK1266.out (by decide)) (fun _ hk => hk.2) (.int .i64 t1260)) (fun _ hk => hk.2) (.int .i64 t1261)) (fun _ hk => hk.2) (.slice Ao31 t1262.length co31)) (fun _ hk => hk.2) (.int .i64 t1265)) (fun _ h_ => h_.1))) (Kd.R_base ho0) hb); have n4_ := Aq.mk (Kd.R_lower (Kd.R_new' (Kd.R_new' (Kd.R_new' (Kd.R_new' ho0 (Kd.R_lt (by (with_reducible repeat (first | apply Kd.RqA | apply Kd.RqN | apply Kd.RqD)); exact (Kd.R_mono (Kd.R_far (p := ⟨gb1266, 3, none⟩) (Kd.R_far (p := ⟨gb1266, 2, none⟩) (Kd.R_far (p := ⟨gb1266, 1, none⟩) (Kd.R_far (p := ⟨gb1266, 0, none⟩) (Kd.R_types HO1251.out BK1266.out (by decide)) (fun _ hk => hk.2) (.int .i64 t1260)) (fun _ hk => hk.2) (.int .i64 t1261)) (fun _ hk => hk.2) (.slice Ao31 t1262.length co31)) (fun _ hk => hk.2) (.int .i64 t1265)) (fun _ h_ => h_.1))))) (Kd.R_lt (by (with_reducible repeat (first | apply Kd.RqA | apply Kd.RqN | apply Kd.RqD)); exact (Kd.R_mono (Kd.R_far (p := ⟨gb1266, 3, none⟩) (Kd.R_far (p := ⟨gb1266, 2, none⟩) (Kd.R_far (p := ⟨gb1266, 1, none⟩) (Kd.R_far (p := ⟨gb1266, 0, none⟩) (Kd.R_types HO1255.out BK1266.out (by decide)) (fun _ hk => hk.2) (.int .i64 t1260)) (fun _ hk => hk.2) (.int .i64 t1261)) (fun _ hk => hk.2) (.slice Ao31 t1262.length co31)) (fun _ hk => hk.2) (.int .i64 t1265)) (fun _ h_ => h_.1))))) (Kd.R_lt (by (with_reducible repeat (first | apply Kd.RqA | apply Kd.RqN | apply Kd.RqD)); exact (Kd.R_mono (Kd.R_far (p := ⟨gb1266, 3, none⟩) (Kd.R_far (p := ⟨gb1266, 2, none⟩) (Kd.R_far (p := ⟨gb1266, 1, none⟩) (Kd.R_far (p := ⟨gb1266, 0, none⟩) (Kd.R_types HO1258.out BK1266.out (by decide)) (fun _ hk => hk.2) (.int .i64 t1260)) (fun _ hk => hk.2) (.int .i64 t1261)) (fun _ hk => hk.2) (.slice Ao31 t1262.length co31)) (fun _ hk => hk.2) (.int .i64 t1265)) (fun _ h_ => h_.1))))) (Kd.R_lt (by (with_reducible repeat (first | apply Kd.RqA | apply Kd.RqN | apply Kd.RqD)); exact (Kd.R_mono (Kd.R_far (p := ⟨gb1266, 3, none⟩) (Kd.R_far (p := ⟨gb1266, 2, none⟩) (Kd.R_far (p := ⟨gb1266, 1, none⟩) (Kd.R_far (p := ⟨gb1266, 0, none⟩) (Kd.R_types HO1264.out BK1266.out (by decide)) (fun _ hk => hk.2) (.int .i64 t1260)) (fun _ hk => hk.2) (.int .i64 t1261)) (fun _ hk => hk.2) (.slice Ao31 t1262.length co31)) (fun _ hk => hk.2) (.int .i64 t1265)) (fun _ h_ => h_.1))))) (bQZ (by repeat (first | (with_reducible first | exact HB.out | apply bQA | apply bQN | apply bQ1 | refine bQS ?_ GE1245.out | refine bQS ?_ GE1266.out) | exact HB.out)))); have n5_ := Aq.mk (kQB (g := gb1245) (o := .cells #[.int .i64 a0_0, .int .i64 a0_1, .slice A0_2 l0_2.length c0_2, .int .i64 a0_3] 45 (0, 0)) (by (with_reducible repeat (first | refine kQN ?_ _ | refine kQD ?_ | refine kQA ?_ _)); refine kQR ?_ NB1245_1266.out _; (with_reducible repeat (first | refine kQN ?_ _ | refine kQD ?_ | refine kQA ?_ _)); refine kQR ?_ NB1245_1266.out _; (with_reducible repeat (first | refine kQN ?_ _ | refine kQD ?_ | refine kQA ?_ _)); refine kQR ?_ NB1245_1266.out _; (with_reducible repeat (first | refine kQN ?_ _ | refine kQD ?_ | refine kQA ?_ _)); refine kQR ?_ NB1245_1266.out _; (with_reducible repeat (first | refine kQN ?_ _ | refine kQD ?_ | refine kQA ?_ _)); exact BK1245.out) hb); have n6_ := Aq.mk (kQB (g := gb1266) (o := .cells #[.int .i64 t1260, .int .i64 t1261, .slice Ao31 t1262.length co31, .int .i64 t1265] 49 (0, 0)) (by (with_reducible repeat (first | refine kQN ?_ _ | refine kQD ?_ | refine kQA ?_ _)); refine kQP (cs := #[.int .i64 t1260, .int .i64 t1261, .slice Ao31 t1262.length co31, .int .i64 0]) ?_ 3 _ rfl; (with_reducible repeat (first | refine kQN ?_ _ | refine kQD ?_ | refine kQA ?_ _)); refine kQP (cs := #[.int .i64 t1260, .int .i64 t1261, .slice none 0 0, .int .i64 0]) ?_ 2 _ rfl; (with_reducible repeat (first | refine kQN ?_ _ | refine kQD ?_ | refine kQA ?_ _)); refine kQP (cs := #[.int .i64 t1260, .int .i64 0, .slice none 0 0, .int .i64 0]) ?_ 1 _ rfl; (with_reducible repeat (first | refine kQN ?_ _ | refine kQD ?_ | refine kQA ?_ _)); refine kQP (cs := #[.int .i64 0, .int .i64 0, .slice none 0 0, .int .i64 0]) ?_ 0 _ rfl; (with_reducible repeat (first | refine kQN ?_ _ | refine kQD ?_ | refine kQA ?_ _)); exact BK1266.out) hb); have n7_ := Aq.mk (bQT (by repeat (first | (with_reducible first | exact HB.out | apply bQA | apply bQN | apply bQ1 | refine bQS ?_ GE1245.out | refine bQS ?_ GE1266.out) | exact HB.out)) hb); clear HO1251; clear HO1255; clear HO1258; clear HO1264; clear BK1245; clear BK1266; clear HB; have HO1251 := n0_; have HO1255 := n1_; have HO1258 := n2_; have HO1264 := n3_; have HO1269 := n4_; have BK1245 := n5_; have BK1266 := n6_; have HB := n7_; clear n0_ n1_ n2_ n3_ n4_ n5_ n6_ n7_; (try clear hb); (try clear hb2); (try clear hk); (try clear hi); (try clear ho0); have hcz33_0 : w32.cell? ⟨gb1266, 0, none⟩ = some (.int .i64 t1260) := (kQC BK1266.out 0).trans rfl; have hcz33_1 : w32.cell? ⟨gb1266, 1, none⟩ = some (.int .i64 t1261) := (kQC BK1266.out 1).trans rfl; have hcz33_2 : w32.cell? ⟨gb1266, 2, none⟩ = some (.slice Ao31 t1262.length co31) := (kQC BK1266.out 2).trans rfl; have hcz33_3 : w32.cell? ⟨gb1266, 3, none⟩ = some (.int .i64 t1265) := (kQC BK1266.out 3).trans rfl; have hfz33_0 := kQF BK1266.out 0; have hfz33_1 := kQF BK1266.out 1; have hfz33_2 := kQF BK1266.out 2; have hfz33_3 := kQF BK1266.out 3; obtain ⟨Ao34, co34, eo34⟩ := Kd.R_slice HO1269.out; subst eo34) | ((with_reducible refine gQc (f := 64) rfl ?_); refine goesL_ (some 40) rfl rfl Try.func64 (by kernel_rfl) rfl #[.agg #[.int .i64 t1260, .int .i64 t1261, .slice Ao31 t1262.length co31, .int .i64 t1265], .slice Ao34 t1267.length co34] rfl (by (try simp only [List.map_toArray, List.map_cons, List.map_nil]); first | done | rfl | (simp only [List.length_drop, List.length_take]; rfl)) ?_; (with_reducible refine (impl_EncodeGabidulin.calls k t1260 t1261 _ _ t1262 t1265 _ _ t1267 t1270 t1273 _ ?side1 ?side2 ?side3 ?side4 A15.out).mono ?_); (case side1 => repeat (first | exact (Kd.R_reads' HO1264.out).2.2 | (with_reducible refine Kd.CqA ?_ _) | (with_reducible refine Kd.CqN ?_ _) | (with_reducible refine Kd.CqD ?_))); (case side2 => exact (Kd.R_reads' HO1264.out).2.1); (case side3 => repeat (first | exact (Kd.R_reads' HO1269.out).2.2 | (with_reducible refine Kd.CqA ?_ _) | (with_reducible refine Kd.CqN ?_ _) | (with_reducible refine Kd.CqD ?_))); (case side4 => exact (Kd.R_reads' HO1269.out).2.1); rintro e w35 ⟨v1271, rfl, ho0, hb⟩; refine ⟨_, rfl, ?_⟩; have n0_ := Aq.mk (Kd.R_elder' (by (with_reducible repeat (first | apply Kd.RqA | apply Kd.RqN | apply Kd.RqD)); exact HO1251.out) (Kd.R_base ho0) hb); have n1_ := Aq.mk (Kd.R_elder' (by (with_reducible repeat (first | apply Kd.RqA | apply Kd.RqN | apply Kd.RqD)); exact HO1255.out) (Kd.R_base ho0) hb); have n2_ := Aq.mk (Kd.R_elder' (by (with_reducible repeat (first | apply Kd.RqA | apply Kd.RqN | apply Kd.RqD)); exact HO1258.out) (Kd.R_base ho0) hb); have n3_ := Aq.mk (Kd.R_elder' (by (with_reducible repeat (first | apply Kd.RqA | apply Kd.RqN | apply Kd.RqD)); exact HO1264.out) (Kd.R_base ho0) hb); have n4_ := Aq.mk (Kd.R_elder' (by (with_reducible repeat (first | apply Kd.RqA | apply Kd.RqN | apply Kd.RqD)); exact HO1269.out) (Kd.R_base ho0) hb); have n5_ := Aq.mk (Kd.R_lower (Kd.R_new' (Kd.R_new' (Kd.R_new' (Kd.R_new' (Kd.R_new' ho0 (Kd.R_lt (by (with_reducible repeat (first | apply Kd.RqA | apply Kd.RqN | apply Kd.RqD)); exact HO1251.out))) (Kd.R_lt (by (with_reducible repeat (first | apply Kd.RqA | apply Kd.RqN | apply Kd.RqD)); exact HO1255.out))) (Kd.R_lt (by (with_reducible repeat (first | apply Kd.RqA | apply Kd.RqN | apply Kd.RqD)); exact HO1258.out))) (Kd.R_lt (by (with_reducible repeat (first | apply Kd.RqA | apply Kd.RqN | apply Kd.RqD)); exact HO1264.out))) (Kd.R_lt (by (with_reducible repeat (first | apply Kd.RqA | apply Kd.RqN | apply Kd.RqD)); exact HO1269.out))) (bQZ (by repeat (first | (with_reducible first | exact HB.out | apply bQA | apply bQN | apply bQ1 | refine bQS ?_ GE1245.out | refine bQS ?_ GE1266.out) | exact HB.out)))); have n6_ := Aq.mk (kQB (g := gb1245) (o := .cells #[.int .i64 a0_0, .int .i64 a0_1, .slice A0_2 l0_2.length c0_2, .int .i64 a0_3] 45 (0, 0)) (by (with_reducible repeat (first | refine kQN ?_ _ | refine kQD ?_ | refine kQA ?_ _)); exact BK1245.out) hb); have n7_ := Aq.mk (kQB (g := gb1266) (o := .cells #[.int .i64 t1260, .int .i64 t1261, .slice Ao31 t1262.length co31, .int .i64 t1265] 49 (0, 0)) (by (with_reducible repeat (first | refine kQN ?_ _ | refine kQD ?_ | refine kQA ?_ _)); exact BK1266.out) hb); have n8_ := Aq.mk (bQT (by repeat (first | (with_reducible first | exact HB.out | apply bQA | apply bQN | apply bQ1 | refine bQS ?_ GE1245.out | refine bQS ?_ GE1266.out) | exact HB.out)) hb); clear HO1251; clear HO1255; clear HO1258; clear HO1264; clear HO1269; clear BK1245; clear BK1266; clear HB; have HO1251 := n0_; have HO1255 := n1_; have HO1258 := n2_; have HO1264 := n3_; have HO1269 := n4_; have HO1272 := n5_; have BK1245 := n6_; have BK1266 := n7_; have HB := n8_; clear n0_ n1_ n2_ n3_ n4_ n5_ n6_ n7_ n8_; (try clear hb); (try clear hb2); (try clear hk); (try clear hi); (try clear ho0)))
   (try simp only [Act.put, qSa, qSb, qSc])
   go_cut [51] (fun v51 wc => ∃ (kq : Nat) (x51_15 : Bool), v51 = .bool x51_15 ∧ Aq (laws_FnExactEncodeGabidulin.j0 kq l1 t1256 t1259 t1267 t1270 t1273 x51_15 a0_0 a0_1 l0_2 a0_3 t1260 t1261 t1262 t1265 = some r) ∧ Aq (kq ≤ k) ∧ Aq (Kd.R (Kd.int .i64) 2 wc w.heap.size (fun k_ => some k_ ≠ ((.slice Ao34 t1267.length co34) : Value).ownBlock ∧ some k_ ≠ (v1271 : Value).ownBlock ∧ some k_ ≠ ((.slice Ao31 t1262.length co31) : Value).ownBlock) v1257 t1256) ∧ Aq (Kd.R (Kd.int .i64) 2 wc w.heap.size (fun k_ => some k_ ≠ (v1257 : Value).ownBlock ∧ some k_ ≠ (v1271 : Value).ownBlock ∧ some k_ ≠ ((.slice Ao31 t1262.length co31) : Value).ownBlock) (.slice Ao34 t1267.length co34) t1267) ∧ Aq (Kd.R (Kd.int .i64) 2 wc w.heap.size (fun k_ => some k_ ≠ (v1257 : Value).ownBlock ∧ some k_ ≠ ((.slice Ao34 t1267.length co34) : Value).ownBlock ∧ some k_ ≠ ((.slice Ao31 t1262.length co31) : Value).ownBlock) v1271 t1270) ∧ Aq (Kd.R (Kd.int .i64) 2 wc w.heap.size (fun k_ => some k_ ≠ (v1257 : Value).ownBlock ∧ some k_ ≠ ((.slice Ao34 t1267.length co34) : Value).ownBlock ∧ some k_ ≠ (v1271 : Value).ownBlock) (.slice Ao31 t1262.length co31) t1262) ∧ Aq (wc.heap[gb1245]? = some (.cells #[.int .i64 a0_0, .int .i64 a0_1, (.slice A0_2 l0_2.length c0_2), .int .i64 a0_3] 45 (0, 0))) ∧ Aq (wc.heap[gb1266]? = some (.cells #[.int .i64 t1260, .int .i64 t1261, (.slice Ao31 t1262.length co31), .int .i64 t1265] 49 (0, 0))) ∧ Aq (Below w.heap.size w wc))
   case first =>
    have H := HC16.out
    clear HC16
    replace H := Option.bind_eq_some_iff.mp H
    obtain ⟨t1274, A360, H⟩ := H
    replace H : (if t1274 = true then (laws_FnExactEncodeGabidulin.j0 k l1 t1256 t1259 t1267 t1270 t1273 (t1273 != t1259) a0_0 a0_1 l0_2 a0_3 t1260 t1261 t1262 t1265) else (laws_FnExactEncodeGabidulin.j0 k l1 t1256 t1259 t1267 t1270 t1273 true a0_0 a0_1 l0_2 a0_3 t1260 t1261 t1262 t1265)) = some r := H
    have A36 := Aq.mk A360
    clear A360
    by_cases c37 : t1274 = true
    ·subst c37
     have H1 : (laws_FnExactEncodeGabidulin.j0 k l1 t1256 t1259 t1267 t1270 t1273 (t1273 != t1259) a0_0 a0_1 l0_2 a0_3 t1260 t1261 t1262 t1265) = some r := by rw [if_pos rfl] at H; exact H
     clear H
     have H := H1
     clear H1
     have H' := Aq.mk H
     clear H
     obtain ⟨Ao38, co38, eo38⟩ := Kd.R_slice HO1272.out
     subst eo38
     obtain ⟨Ao39, co39, eo39⟩ := Kd.R_slice HO1258.out
     subst eo39
     go_wp2_with (first | ((with_reducible refine gQc (f := 22) rfl ?_); refine goesL_ (some 45) rfl rfl Try.func22 (by kernel_rfl) rfl #[.slice Ao38 t1270.length co38, .slice Ao39 t1256.length co39] rfl (by (try simp only [List.map_toArray, List.map_cons, List.map_nil]); first | done | rfl | (simp only [List.length_drop, List.length_take]; rfl)) ?_; (with_reducible refine (laws_eqInt64S.calls k _ _ t1270 _ _ t1256 true _ ?side1 ?side2 ?side3 ?side4 A36.out).mono ?_); (case side1 => repeat (first | exact (Kd.R_reads' HO1272.out).2.2 | (with_reducible refine Kd.CqA ?_ _) | (with_reducible refine Kd.CqN ?_ _) | (with_reducible refine Kd.CqD ?_))); (case side2 => exact (Kd.R_reads' HO1272.out).2.1); (case side3 => repeat (first | exact (Kd.R_reads' HO1258.out).2.2 | (with_reducible refine Kd.CqA ?_ _) | (with_reducible refine Kd.CqN ?_ _) | (with_reducible refine Kd.CqD ?_))); (case side4 => exact (Kd.R_reads' HO1258.out).2.1); rintro e w' ⟨rfl, ⟨nd, rfl⟩⟩; refine ⟨_, rfl, ?_⟩))
     go_meet
     case rel => exact ⟨_, ((t1273 != t1259)), (by first | rfl | (simp; done) | (simp [*]; done)), H', ⟨by first | omega | exact Nat.le_refl _⟩, ⟨by (with_reducible repeat (first | apply Kd.RqA | apply Kd.RqN | apply Kd.RqD)); exact Kd.R_mono HO1258.out (fun _ hk => ⟨hk.1.2, ⟨hk.2, hk.1.1.2⟩⟩)⟩, ⟨by (with_reducible repeat (first | apply Kd.RqA | apply Kd.RqN | apply Kd.RqD)); exact Kd.R_mono HO1269.out (fun _ hk => ⟨hk.1.1.2, ⟨hk.2, hk.1.2⟩⟩)⟩, ⟨by (with_reducible repeat (first | apply Kd.RqA | apply Kd.RqN | apply Kd.RqD)); exact Kd.R_mono HO1272.out (fun _ hk => ⟨hk.1.1.2, ⟨hk.2, hk.1.2⟩⟩)⟩, ⟨by (with_reducible repeat (first | apply Kd.RqA | apply Kd.RqN | apply Kd.RqD)); exact Kd.R_mono HO1264.out (fun _ hk => ⟨hk.1.1.2, ⟨hk.1.2, hk.2⟩⟩)⟩, ⟨by (with_reducible repeat (first | refine kQN ?_ _ | refine kQD ?_ | refine kQA ?_ _)); exact BK1245.out⟩, ⟨by (with_reducible repeat (first | refine kQN ?_ _ | refine kQD ?_ | refine kQA ?_ _)); exact BK1266.out⟩, ⟨by repeat (first | (with_reducible first | exact HB.out | apply bQA | apply bQN | apply bQ1 | refine bQS ?_ GE1245.out | refine bQS ?_ GE1266.out) | exact HB.out)⟩⟩
    ·replace c37 := Bool.eq_false_iff.mpr c37
     subst c37
     have H1 : (laws_FnExactEncodeGabidulin.j0 k l1 t1256 t1259 t1267 t1270 t1273 true a0_0 a0_1 l0_2 a0_3 t1260 t1261 t1262 t1265) = some r := by rw [if_neg (show ¬ (false = true) by decide)] at H; exact H
     clear H
     have H := H1
     clear H1
     have H' := Aq.mk H
     clear H
     obtain ⟨Ao40, co40, eo40⟩ := Kd.R_slice HO1272.out
     subst eo40
     obtain ⟨Ao41, co41, eo41⟩ := Kd.R_slice HO1258.out
     subst eo41
     go_wp2_with (first | ((with_reducible refine gQc (f := 22) rfl ?_); refine goesL_ (some 45) rfl rfl Try.func22 (by kernel_rfl) rfl #[.slice Ao40 t1270.length co40, .slice Ao41 t1256.length co41] rfl (by (try simp only [List.map_toArray, List.map_cons, List.map_nil]); first | done | rfl | (simp only [List.length_drop, List.length_take]; rfl)) ?_; (with_reducible refine (laws_eqInt64S.calls k _ _ t1270 _ _ t1256 false _ ?side1 ?side2 ?side3 ?side4 A36.out).mono ?_); (case side1 => repeat (first | exact (Kd.R_reads' HO1272.out).2.2 | (with_reducible refine Kd.CqA ?_ _) | (with_reducible refine Kd.CqN ?_ _) | (with_reducible refine Kd.CqD ?_))); (case side2 => exact (Kd.R_reads' HO1272.out).2.1); (case side3 => repeat (first | exact (Kd.R_reads' HO1258.out).2.2 | (with_reducible refine Kd.CqA ?_ _) | (with_reducible refine Kd.CqN ?_ _) | (with_reducible refine Kd.CqD ?_))); (case side4 => exact (Kd.R_reads' HO1258.out).2.1); rintro e w' ⟨rfl, ⟨nd, rfl⟩⟩; refine ⟨_, rfl, ?_⟩))
     go_meet
     case rel => exact ⟨_, (true), (by first | rfl | (simp; done) | (simp [*]; done)), H', ⟨by first | omega | exact Nat.le_refl _⟩, ⟨by (with_reducible repeat (first | apply Kd.RqA | apply Kd.RqN | apply Kd.RqD)); exact Kd.R_mono HO1258.out (fun _ hk => ⟨hk.1.2, ⟨hk.2, hk.1.1.2⟩⟩)⟩, ⟨by (with_reducible repeat (first | apply Kd.RqA | apply Kd.RqN | apply Kd.RqD)); exact Kd.R_mono HO1269.out (fun _ hk => ⟨hk.1.1.2, ⟨hk.2, hk.1.2⟩⟩)⟩, ⟨by (with_reducible repeat (first | apply Kd.RqA | apply Kd.RqN | apply Kd.RqD)); exact Kd.R_mono HO1272.out (fun _ hk => ⟨hk.1.1.2, ⟨hk.2, hk.1.2⟩⟩)⟩, ⟨by (with_reducible repeat (first | apply Kd.RqA | apply Kd.RqN | apply Kd.RqD)); exact Kd.R_mono HO1264.out (fun _ hk => ⟨hk.1.1.2, ⟨hk.1.2, hk.2⟩⟩)⟩, ⟨by (with_reducible repeat (first | refine kQN ?_ _ | refine kQD ?_ | refine kQA ?_ _)); exact BK1245.out⟩, ⟨by (with_reducible repeat (first | refine kQN ?_ _ | refine kQD ?_ | refine kQA ?_ _)); exact BK1266.out⟩, ⟨by repeat (first | (with_reducible first | exact HB.out | apply bQA | apply bQN | apply bQ1 | refine bQS ?_ GE1245.out | refine bQS ?_ GE1266.out) | exact HB.out)⟩⟩
   case rest =>
    clear HC16
    try clear c1
    try clear c2
    try clear p2
    try clear c3
    try clear c3b0
    try clear c3b1
    try clear c6
    try clear c6b0
    try clear c16
    try clear c19
    try clear c22
    try clear c29
    try clear c35
    try clear c37
    try clear hcz18_0
    try clear hcz18_1
    try clear hcz18_2
    try clear hcz18_3
    try clear hcz20_0
    try clear hcz20_1
    try clear hcz20_2
    try clear hcz20_3
    try clear hcz26_0
    try clear hcz26_1
    try clear hcz26_2
    try clear hcz26_3
    try clear hcz30_0
    try clear hcz30_1
    try clear hcz30_2
    try clear hcz30_3
    try clear hcz33_0
    try clear hcz33_1
    try clear hcz33_2
    try clear hcz33_3
    try clear hcz8_0
    try clear hcz8_1
    try clear hcz8_2
    try clear hcz8_3
    try clear hfz18_0
    try clear hfz18_1
    try clear hfz18_2
    try clear hfz18_3
    try clear hfz20_0
    try clear hfz20_1
    try clear hfz20_2
    try clear hfz20_3
    try clear hfz26_0
    try clear hfz26_1
    try clear hfz26_2
    try clear hfz26_3
    try clear hfz30_0
    try clear hfz30_1
    try clear hfz30_2
    try clear hfz30_3
    try clear hfz33_0
    try clear hfz33_1
    try clear hfz33_2
    try clear hfz33_3
    try clear hfz8_0
    try clear hfz8_1
    try clear hfz8_2
    try clear hfz8_3
    obtain ⟨kq, x51_15, rfl, HA, HJ15, HO_6, HO_9, HO_10, HO_1267002, BK1245, BK1266, HB⟩ := hcut
    cases kq with
    | zero => exact absurd HA.out (by simp [laws_FnExactEncodeGabidulin.j0])
    | succ kj15 =>
     have H := HA.out
     clear HA
     simp only [laws_FnExactEncodeGabidulin.j0] at H
     by_cases c42 : x51_15 = true
     ·subst c42
      have H1 : (some false) = some r := by rw [if_pos rfl] at H; exact H
      clear H
      have H := H1
      clear H1
      obtain rfl := Option.some.inj H
      go_wp2
      go_ret
      exact ⟨by first | rfl | (simp [errW_none, errW_some] <;> rfl) | (simp [*, errW_none, errW_some] <;> rfl), by repeat (first | (with_reducible first | exact HB.out | apply bQA | apply bQN | apply bQ1 | refine bQS ?_ GE1245.out | refine bQS ?_ GE1266.out) | exact HB.out)⟩
     ·replace c42 := Bool.eq_false_iff.mpr c42
      subst c42
      have H1 : ((laws_toGabidulin.f kj15 a0_0 a0_1 l0_2 a0_3).bind fun bt1275 => ((laws_eqGabidulin.f kj15 t1260 t1261 t1262 t1265 bt1275.1 bt1275.2.1 bt1275.2.2.1 bt1275.2.2.2).bind fun t1281 => (if t1281 = true then ((laws_toInt64S.f kj15 l1).bind fun t1282 => ((laws_eqInt64S.f kj15 t1267 t1282).bind fun t1285 => (if t1285 = true then ((laws_markGabidulin.f kj15 t1260 t1261 t1262 t1265 1).bind fun bt1286 => ((laws_markInt64S.f kj15 t1267 bt1286.1).bind fun bt1288 => (if bt1288.1 < 0 then (laws_FnExactEncodeGabidulin.j1 kj15 l1 t1256 t1259 t1270 true a0_0 a0_1 l0_2 a0_3) else ((laws_eqInt64S.f kj15 t1270 t1256).bind fun t1290 => (if t1290 = true then (laws_FnExactEncodeGabidulin.j1 kj15 l1 t1256 t1259 t1270 (t1273 != t1259) a0_0 a0_1 l0_2 a0_3) else (laws_FnExactEncodeGabidulin.j1 kj15 l1 t1256 t1259 t1270 true a0_0 a0_1 l0_2 a0_3)))))) else (some false)))) else (some false)))) = some r := by rw [if_neg (show ¬ (false = true) by decide)] at H; exact H
      clear H
      have H := H1
      clear H1
      replace H := Option.bind_eq_some_iff.mp H
      obtain ⟨⟨t1275, t1276, t1277, t1280⟩, A430, H⟩ := H
      replace H : ((laws_eqGabidulin.f kj15 t1260 t1261 t1262 t1265 t1275 t1276 t1277 t1280).bind fun t1281 => (if t1281 = true then ((laws_toInt64S.f kj15 l1).bind fun t1282 => ((laws_eqInt64S.f kj15 t1267 t1282).bind fun t1285 => (if t1285 = true then ((laws_markGabidulin.f kj15 t1260 t1261 t1262 t1265 1).bind fun bt1286 => ((laws_markInt64S.f kj15 t1267 bt1286.1).bind fun bt1288 => (if bt1288.1 < 0 then (laws_FnExactEncodeGabidulin.j1 kj15 l1 t1256 t1259 t1270 true a0_0 a0_1 l0_2 a0_3) else ((laws_eqInt64S.f kj15 t1270 t1256).bind fun t1290 => (if t1290 = true then (laws_FnExactEncodeGabidulin.j1 kj15 l1 t1256 t1259 t1270 (t1273 != t1259) a0_0 a0_1 l0_2 a0_3) else (laws_FnExactEncodeGabidulin.j1 kj15 l1 t1256 t1259 t1270 true a0_0 a0_1 l0_2 a0_3)))))) else (some false)))) else (some false))) = some r := H
      have A43 := Aq.mk A430
      clear A430
      replace H := Option.bind_eq_some_iff.mp H
      obtain ⟨t1281, A440, H⟩ := H
      replace H : (if t1281 = true then ((laws_toInt64S.f kj15 l1).bind fun t1282 => ((laws_eqInt64S.f kj15 t1267 t1282).bind fun t1285 => (if t1285 = true then ((laws_markGabidulin.f kj15 t1260 t1261 t1262 t1265 1).bind fun bt1286 => ((laws_markInt64S.f kj15 t1267 bt1286.1).bind fun bt1288 => (if bt1288.1 < 0 then (laws_FnExactEncodeGabidulin.j1 kj15 l1 t1256 t1259 t1270 true a0_0 a0_1 l0_2 a0_3) else ((laws_eqInt64S.f kj15 t1270 t1256).bind fun t1290 => (if t1290 = true then (laws_FnExactEncodeGabidulin.j1 kj15 l1 t1256 t1259 t1270 (t1273 != t1259) a0_0 a0_1 l0_2 a0_3) else (laws_FnExactEncodeGabidulin.j1 kj15 l1 t1256 t1259 t1270 true a0_0 a0_1 l0_2 a0_3)))))) else (some false)))) else (some false)) = some r := H
      have A44 := Aq.mk A440
      clear A440
      by_cases c45 : t1281 = true
      ·subst c45
       have H1 : ((laws_toInt64S.f kj15 l1).bind fun t1282 => ((laws_eqInt64S.f kj15 t1267 t1282).bind fun t1285 => (if t1285 = true then ((laws_markGabidulin.f kj15 t1260 t1261 t1262 t1265 1).bind fun bt1286 => ((laws_markInt64S.f kj15 t1267 bt1286.1).bind fun bt1288 => (if bt1288.1 < 0 then (laws_FnExactEncodeGabidulin.j1 kj15 l1 t1256 t1259 t1270 true a0_0 a0_1 l0_2 a0_3) else ((laws_eqInt64S.f kj15 t1270 t1256).bind fun t1290 => (if t1290 = true then (laws_FnExactEncodeGabidulin.j1 kj15 l1 t1256 t1259 t1270 (t1273 != t1259) a0_0 a0_1 l0_2 a0_3) else (laws_FnExactEncodeGabidulin.j1 kj15 l1 t1256 t1259 t1270 true a0_0 a0_1 l0_2 a0_3)))))) else (some false)))) = some r := by rw [if_pos rfl] at H; exact H
       clear H
       have H := H1
       clear H1
       replace H := Option.bind_eq_some_iff.mp H
       obtain ⟨t1282, A460, H⟩ := H
       replace H : ((laws_eqInt64S.f kj15 t1267 t1282).bind fun t1285 => (if t1285 = true then ((laws_markGabidulin.f kj15 t1260 t1261 t1262 t1265 1).bind fun bt1286 => ((laws_markInt64S.f kj15 t1267 bt1286.1).bind fun bt1288 => (if bt1288.1 < 0 then (laws_FnExactEncodeGabidulin.j1 kj15 l1 t1256 t1259 t1270 true a0_0 a0_1 l0_2 a0_3) else ((laws_eqInt64S.f kj15 t1270 t1256).bind fun t1290 => (if t1290 = true then (laws_FnExactEncodeGabidulin.j1 kj15 l1 t1256 t1259 t1270 (t1273 != t1259) a0_0 a0_1 l0_2 a0_3) else (laws_FnExactEncodeGabidulin.j1 kj15 l1 t1256 t1259 t1270 true a0_0 a0_1 l0_2 a0_3)))))) else (some false))) = some r := H
       have A46 := Aq.mk A460
       clear A460
       replace H := Option.bind_eq_some_iff.mp H
       obtain ⟨t1285, A470, H⟩ := H
       replace H : (if t1285 = true then ((laws_markGabidulin.f kj15 t1260 t1261 t1262 t1265 1).bind fun bt1286 => ((laws_markInt64S.f kj15 t1267 bt1286.1).bind fun bt1288 => (if bt1288.1 < 0 then (laws_FnExactEncodeGabidulin.j1 kj15 l1 t1256 t1259 t1270 true a0_0 a0_1 l0_2 a0_3) else ((laws_eqInt64S.f kj15 t1270 t1256).bind fun t1290 => (if t1290 = true then (laws_FnExactEncodeGabidulin.j1 kj15 l1 t1256 t1259 t1270 (t1273 != t1259) a0_0 a0_1 l0_2 a0_3) else (laws_FnExactEncodeGabidulin.j1 kj15 l1 t1256 t1259 t1270 true a0_0 a0_1 l0_2 a0_3)))))) else (some false)) = some r := H
       have A47 := Aq.mk A470
       clear A470
       by_cases c48 : t1285 = true
       ·subst c48
        have H1 : ((laws_markGabidulin.f kj15 t1260 t1261 t1262 t1265 1).bind fun bt1286 => ((laws_markInt64S.f kj15 t1267 bt1286.1).bind fun bt1288 => (if bt1288.1 < 0 then (laws_FnExactEncodeGabidulin.j1 kj15 l1 t1256 t1259 t1270 true a0_0 a0_1 l0_2 a0_3) else ((laws_eqInt64S.f kj15 t1270 t1256).bind fun t1290 => (if t1290 = true then (laws_FnExactEncodeGabidulin.j1 kj15 l1 t1256 t1259 t1270 (t1273 != t1259) a0_0 a0_1 l0_2 a0_3) else (laws_FnExactEncodeGabidulin.j1 kj15 l1 t1256 t1259 t1270 true a0_0 a0_1 l0_2 a0_3)))))) = some r := by rw [if_pos rfl] at H; exact H
        clear H
        have H := H1
        clear H1
        replace H := Option.bind_eq_some_iff.mp H
        obtain ⟨⟨t1286, t1287⟩, A490, H⟩ := H
        replace H : ((laws_markInt64S.f kj15 t1267 t1286).bind fun bt1288 => (if bt1288.1 < 0 then (laws_FnExactEncodeGabidulin.j1 kj15 l1 t1256 t1259 t1270 true a0_0 a0_1 l0_2 a0_3) else ((laws_eqInt64S.f kj15 t1270 t1256).bind fun t1290 => (if t1290 = true then (laws_FnExactEncodeGabidulin.j1 kj15 l1 t1256 t1259 t1270 (t1273 != t1259) a0_0 a0_1 l0_2 a0_3) else (laws_FnExactEncodeGabidulin.j1 kj15 l1 t1256 t1259 t1270 true a0_0 a0_1 l0_2 a0_3))))) = some r := H
        have A49 := Aq.mk A490
        clear A490
        replace H := Option.bind_eq_some_iff.mp H
        obtain ⟨⟨t1288, t1289⟩, A500, H⟩ := H
        replace H : (if t1288 < 0 then (laws_FnExactEncodeGabidulin.j1 kj15 l1 t1256 t1259 t1270 true a0_0 a0_1 l0_2 a0_3) else ((laws_eqInt64S.f kj15 t1270 t1256).bind fun t1290 => (if t1290 = true then (laws_FnExactEncodeGabidulin.j1 kj15 l1 t1256 t1259 t1270 (t1273 != t1259) a0_0 a0_1 l0_2 a0_3) else (laws_FnExactEncodeGabidulin.j1 kj15 l1 t1256 t1259 t1270 true a0_0 a0_1 l0_2 a0_3)))) = some r := H
        have A50 := Aq.mk A500
        clear A500
        have HC51 := Aq.mk H
        clear H
        try go_wp2
        have n0_ := Aq.mk (Kd.RqD HO_6.out)
        have n1_ := Aq.mk (Kd.RqD HO_9.out)
        have n2_ := Aq.mk (Kd.RqD HO_10.out)
        have n3_ := Aq.mk (Kd.RqD HO_1267002.out)
        have n4_ := Aq.mk (kQD BK1245.out)
        have n5_ := Aq.mk (kQD BK1266.out)
        have n6_ := Aq.mk (bQ1 HB.out)
        clear HO_6
        clear HO_9
        clear HO_10
        clear HO_1267002
        clear BK1245
        clear BK1266
        clear HB
        have HO_6 := n0_
        have HO_9 := n1_
        have HO_10 := n2_
        have HO_1267002 := n3_
        have BK1245 := n4_
        have BK1266 := n5_
        have HB := n6_
        clear n0_ n1_ n2_ n3_ n4_ n5_ n6_
        refine start_ (n := 5) (S := fun w' => w'.cell? ⟨gb1266, 0, none⟩ = some (.int .i64 t1260) ∧ w'.cell? ⟨gb1266, 1, none⟩ = some (.int .i64 t1261) ∧ w'.cell? ⟨gb1266, 2, none⟩ = some (.slice Ao31 t1262.length co31) ∧ w'.cell? ⟨gb1266, 3, none⟩ = some (.int .i64 t1265) ∧ w'.cell? ⟨gb1245, 0, none⟩ = some (.int .i64 a0_0) ∧ w'.cell? ⟨gb1245, 1, none⟩ = some (.int .i64 a0_1) ∧ w'.cell? ⟨gb1245, 2, none⟩ = some (.slice A0_2 l0_2.length c0_2) ∧ w'.cell? ⟨gb1245, 3, none⟩ = some (.int .i64 a0_3)) (ds := []) #[false, false, false, false, false] (by kernel_rfl) rfl rfl ⟨(kQC BK1266.out 0).trans rfl, (kQC BK1266.out 1).trans rfl, (kQC BK1266.out 2).trans rfl, (kQC BK1266.out 3).trans rfl, (kQC BK1245.out 0).trans rfl, (kQC BK1245.out 1).trans rfl, (kQC BK1245.out 2).trans rfl, (kQC BK1245.out 3).trans rfl⟩ (fun hHeld => ?_)
        generalize wc.drew = w52 at HO_6 HO_9 HO_10 HO_1267002 BK1245 BK1266 HB hHeld ⊢
        refine take_ (i := 0) (N := some 52) (v := ?_) (a' := ?_) #[true, false, false, false, false] rfl rfl (by kernel_rfl) (fun _ _ _ h => h) (Or.inl ⟨by rfl, ?_⟩) hHeld ?_ ?_
        rotate_left
        ·rintro w' ⟨s0, s1, s2, s3, s4, s5, s6, s7⟩
         go_simp
         with_reducible rfl
        rotate_left
        ·simp only [Act.put, qSa, qSb, qSc, i64_w, i32_w]
         rfl
        refine take_ (i := 1) (N := some 53) (v := ?_) (a' := ?_) #[true, true, false, false, false] rfl rfl (by kernel_rfl) (fun _ _ _ h => h) (Or.inl ⟨by rfl, ?_⟩) hHeld ?_ ?_
        rotate_left
        ·rintro w' ⟨s0, s1, s2, s3, s4, s5, s6, s7⟩
         go_simp
         with_reducible rfl
        rotate_left
        ·simp only [Act.put, qSa, qSb, qSc, i64_w, i32_w]
         rfl
        refine one_ (i := 2) (N := some 54) #[true, true, true, false, false] rfl rfl (by kernel_rfl) (by decide) (fun K hK => ?_)
        refine goes_ Try.func37 (by kernel_rfl) rfl #[.agg #[.int .i64 a0_0, .int .i64 a0_1, .slice A0_2 l0_2.length c0_2, .int .i64 a0_3]] (by rfl) rfl rfl (by (try simp only [List.map_toArray, List.map_cons, List.map_nil]); first | done | rfl | (simp only [List.length_drop, List.length_take]; rfl)) ?_
        with_reducible refine (laws_toGabidulin.calls kj15 a0_0 a0_1 _ _ l0_2 a0_3 t1275 t1276 t1277 t1280 _ ?side1 ?side2 A43.out).mono ?_
        (case side1 => repeat (first | exact (Kd.C_below HR0_2.out HB.out) | (with_reducible refine Kd.CqA ?_ _) | (with_reducible refine Kd.CqN ?_ _) | (with_reducible refine Kd.CqD ?_)))
        (case side2 => exact HC0_2.out)
        rintro e w53 ⟨v1278, rfl, ho0, hb⟩
        refine ⟨_, rfl, ?_⟩
        have n0_ := Aq.mk (Kd.R_elder' (by (with_reducible repeat (first | apply Kd.RqA | apply Kd.RqN | apply Kd.RqD)); exact HO_6.out) (Kd.R_base ho0) hb)
        have n1_ := Aq.mk (Kd.R_elder' (by (with_reducible repeat (first | apply Kd.RqA | apply Kd.RqN | apply Kd.RqD)); exact HO_9.out) (Kd.R_base ho0) hb)
        have n2_ := Aq.mk (Kd.R_elder' (by (with_reducible repeat (first | apply Kd.RqA | apply Kd.RqN | apply Kd.RqD)); exact HO_10.out) (Kd.R_base ho0) hb)
        have n3_ := Aq.mk (Kd.R_elder' (by (with_reducible repeat (first | apply Kd.RqA | apply Kd.RqN | apply Kd.RqD)); exact HO_1267002.out) (Kd.R_base ho0) hb)
        have n4_ := Aq.mk (Kd.R_lower (Kd.R_new' (Kd.R_new' (Kd.R_new' (Kd.R_new' ho0 (Kd.R_lt (by (with_reducible repeat (first | apply Kd.RqA | apply Kd.RqN | apply Kd.RqD)); exact HO_6.out))) (Kd.R_lt (by (with_reducible repeat (first | apply Kd.RqA | apply Kd.RqN | apply Kd.RqD)); exact HO_9.out))) (Kd.R_lt (by (with_reducible repeat (first | apply Kd.RqA | apply Kd.RqN | apply Kd.RqD)); exact HO_10.out))) (Kd.R_lt (by (with_reducible repeat (first | apply Kd.RqA | apply Kd.RqN | apply Kd.RqD)); exact HO_1267002.out))) (bQZ (by repeat (first | (with_reducible first | exact HB.out | apply bQA | apply bQN | apply bQ1 | refine bQS ?_ GE1245.out | refine bQS ?_ GE1266.out) | exact HB.out))))
        have n5_ := Aq.mk (kQB (g := gb1245) (o := .cells #[.int .i64 a0_0, .int .i64 a0_1, .slice A0_2 l0_2.length c0_2, .int .i64 a0_3] 45 (0, 0)) (by (with_reducible repeat (first | refine kQN ?_ _ | refine kQD ?_ | refine kQA ?_ _)); exact BK1245.out) hb)
        have n6_ := Aq.mk (kQB (g := gb1266) (o := .cells #[.int .i64 t1260, .int .i64 t1261, .slice Ao31 t1262.length co31, .int .i64 t1265] 49 (0, 0)) (by (with_reducible repeat (first | refine kQN ?_ _ | refine kQD ?_ | refine kQA ?_ _)); exact BK1266.out) hb)
        have n7_ := Aq.mk (bQT (by repeat (first | (with_reducible first | exact HB.out | apply bQA | apply bQN | apply bQ1 | refine bQS ?_ GE1245.out | refine bQS ?_ GE1266.out) | exact HB.out)) hb)
        clear HO_6
        clear HO_9
        clear HO_10
        clear HO_1267002
        clear BK1245
        clear BK1266
        clear HB
        have HO_6 := n0_
        have HO_9 := n1_
        have HO_10 := n2_
        have HO_1267002 := n3_
        have HO1279 := n4_
        have BK1245 := n5_
        have BK1266 := n6_
        have HB := n7_
        clear n0_ n1_ n2_ n3_ n4_ n5_ n6_ n7_
        (try clear hb)
        (try clear hb2)
        (try clear hk)
        (try clear hi)
        (try clear ho0)
        obtain ⟨Ao54, co54, eo54⟩ := Kd.R_slice HO1279.out
        (first | subst eo54 | (injection eo54 with f1_ f2_ f3_; have f4_ := f1_.symm; have f5_ := f3_.symm; clear f1_ f2_ f3_; subst f4_; subst f5_))
        refine hK.out _ _ ⟨(kQC BK1266.out 0).trans rfl, (kQC BK1266.out 1).trans rfl, (kQC BK1266.out 2).trans rfl, (kQC BK1266.out 3).trans rfl, (kQC BK1245.out 0).trans rfl, (kQC BK1245.out 1).trans rfl, (kQC BK1245.out 2).trans rfl, (kQC BK1245.out 3).trans rfl⟩ (fun hHeld => ?_)
        clear hK K
        refine norm_ (a' := ?_) ?_ ?_
        rotate_left
        ·show Act.put _ (some 54) _ = _
         simp only [Act.put, qSa, qSb, qSc, i64_w, i32_w]
         rfl
        refine one_ (i := 3) (N := some 55) #[true, true, true, true, false] rfl rfl (by kernel_rfl) (by decide) (fun K hK => ?_)
        refine goes_ Try.func39 (by kernel_rfl) rfl #[.agg #[.int .i64 t1260, .int .i64 t1261, .slice Ao31 t1262.length co31, .int .i64 t1265], .agg #[.int .i64 t1275, .int .i64 t1276, .slice Ao54 t1277.length co54, .int .i64 t1280]] (by rfl) rfl rfl (by (try simp only [List.map_toArray, List.map_cons, List.map_nil]); first | done | rfl | (simp only [List.length_drop, List.length_take]; rfl)) ?_
        with_reducible refine (laws_eqGabidulin.calls kj15 t1260 t1261 _ _ t1262 t1265 t1275 t1276 _ _ t1277 t1280 true _ ?side1 ?side2 ?side3 ?side4 A44.out).mono ?_
        (case side1 => repeat (first | exact (Kd.R_reads' HO_1267002.out).2.2 | (with_reducible refine Kd.CqA ?_ _) | (with_reducible refine Kd.CqN ?_ _) | (with_reducible refine Kd.CqD ?_)))
        (case side2 => exact (Kd.R_reads' HO_1267002.out).2.1)
        (case side3 => repeat (first | exact (Kd.R_reads' HO1279.out).2.2 | (with_reducible refine Kd.CqA ?_ _) | (with_reducible refine Kd.CqN ?_ _) | (with_reducible refine Kd.CqD ?_)))
        (case side4 => exact (Kd.R_reads' HO1279.out).2.1)
        rintro e w55 ⟨rfl, hb⟩
        refine ⟨_, rfl, ?_⟩
        have n0_ := Aq.mk (Kd.R_below (by (with_reducible repeat (first | apply Kd.RqA | apply Kd.RqN | apply Kd.RqD)); exact HO_6.out) hb)
        have n1_ := Aq.mk (Kd.R_below (by (with_reducible repeat (first | apply Kd.RqA | apply Kd.RqN | apply Kd.RqD)); exact HO_9.out) hb)
        have n2_ := Aq.mk (Kd.R_below (by (with_reducible repeat (first | apply Kd.RqA | apply Kd.RqN | apply Kd.RqD)); exact HO_10.out) hb)
        have n3_ := Aq.mk (Kd.R_below (by (with_reducible repeat (first | apply Kd.RqA | apply Kd.RqN | apply Kd.RqD)); exact HO_1267002.out) hb)
        have n4_ := Aq.mk (Kd.R_below (by (with_reducible repeat (first | apply Kd.RqA | apply Kd.RqN | apply Kd.RqD)); exact HO1279.out) hb)
        have n5_ := Aq.mk (kQB (g := gb1245) (o := .cells #[.int .i64 a0_0, .int .i64 a0_1, .slice A0_2 l0_2.length c0_2, .int .i64 a0_3] 45 (0, 0)) (by (with_reducible repeat (first | refine kQN ?_ _ | refine kQD ?_ | refine kQA ?_ _)); exact BK1245.out) hb)
        have n6_ := Aq.mk (kQB (g := gb1266) (o := .cells #[.int .i64 t1260, .int .i64 t1261, .slice Ao31 t1262.length co31, .int .i64 t1265] 49 (0, 0)) (by (with_reducible repeat (first | refine kQN ?_ _ | refine kQD ?_ | refine kQA ?_ _)); exact BK1266.out) hb)
        have n7_ := Aq.mk (bQT (by repeat (first | (with_reducible first | exact HB.out | apply bQA | apply bQN | apply bQ1 | refine bQS ?_ GE1245.out | refine bQS ?_ GE1266.out) | exact HB.out)) hb)
        clear HO_6
        clear HO_9
        clear HO_10
        clear HO_1267002
        clear HO1279
        clear BK1245
        clear BK1266
        clear HB
        have HO_6 := n0_
        have HO_9 := n1_
        have HO_10 := n2_
        have HO_1267002 := n3_
        have HO1279 := n4_
        have BK1245 := n5_
        have BK1266 := n6_
        have HB := n7_
        clear n0_ n1_ n2_ n3_ n4_ n5_ n6_ n7_
        (try clear hb)
        (try clear hb2)
        (try clear hk)
        (try clear hi)
        refine hK.out _ _ ⟨(kQC BK1266.out 0).trans rfl, (kQC BK1266.out 1).trans rfl, (kQC BK1266.out 2).trans rfl, (kQC BK1266.out 3).trans rfl, (kQC BK1245.out 0).trans rfl, (kQC BK1245.out 1).trans rfl, (kQC BK1245.out 2).trans rfl, (kQC BK1245.out 3).trans rfl⟩ (fun hHeld => ?_)
        clear hK K
        refine norm_ (a' := ?_) ?_ ?_
        rotate_left
        ·show Act.put _ (some 55) _ = _
         simp only [Act.put, qSa, qSb, qSc, i64_w, i32_w]
         rfl
        refine pure_ (i := 4) (N := some 56) (v := ?_) (a' := ?_) #[true, true, true, true, true] rfl rfl (by kernel_rfl) (fun _ _ _ h => h) (Or.inl ⟨by rfl, ?_⟩) ?_ ?_
        rotate_left
        ·intro w'
         go_simp
         with_reducible rfl
        rotate_left
        ·simp only [Act.put, qSa, qSb, qSc, i64_w, i32_w]
         rfl
        refine done_ (by kernel_rfl) ?_
        go_upto_region 20 with (first | ((with_reducible refine gQc (f := 19) rfl ?_); refine goesL_ (some 59) rfl rfl Try.func19 (by kernel_rfl) rfl #[.slice A1 l1.length c1] rfl (by (try simp only [List.map_toArray, List.map_cons, List.map_nil]); first | done | rfl | (simp only [List.length_drop, List.length_take]; rfl)) ?_; (with_reducible refine (laws_toInt64S.calls kj15 _ _ l1 t1282 _ ?side1 ?side2 A46.out).mono ?_); (case side1 => repeat (first | exact (Kd.C_below HR1.out HB.out) | (with_reducible refine Kd.CqA ?_ _) | (with_reducible refine Kd.CqN ?_ _) | (with_reducible refine Kd.CqD ?_))); (case side2 => exact HC1.out); rintro e w56 ⟨v1283, rfl, ho0, hb⟩; refine ⟨_, rfl, ?_⟩; have n0_ := Aq.mk (Kd.R_elder' (by (with_reducible repeat (first | apply Kd.RqA | apply Kd.RqN | apply Kd.RqD)); exact HO_6.out) (Kd.R_base ho0) hb); have n1_ := Aq.mk (Kd.R_elder' (by (with_reducible repeat (first | apply Kd.RqA | apply Kd.RqN | apply Kd.RqD)); exact HO_9.out) (Kd.R_base ho0) hb); have n2_ := Aq.mk (Kd.R_elder' (by (with_reducible repeat (first | apply Kd.RqA | apply Kd.RqN | apply Kd.RqD)); exact HO_10.out) (Kd.R_base ho0) hb); have n3_ := Aq.mk (Kd.R_elder' (by (with_reducible repeat (first | apply Kd.RqA | apply Kd.RqN | apply Kd.RqD)); exact HO_1267002.out) (Kd.R_base ho0) hb); have n4_ := Aq.mk (Kd.R_elder' (by (with_reducible repeat (first | apply Kd.RqA | apply Kd.RqN | apply Kd.RqD)); exact HO1279.out) (Kd.R_base ho0) hb); have n5_ := Aq.mk (Kd.R_lower (Kd.R_new' (Kd.R_new' (Kd.R_new' (Kd.R_new' (Kd.R_new' ho0 (Kd.R_lt (by (with_reducible repeat (first | apply Kd.RqA | apply Kd.RqN | apply Kd.RqD)); exact HO_6.out))) (Kd.R_lt (by (with_reducible repeat (first | apply Kd.RqA | apply Kd.RqN | apply Kd.RqD)); exact HO_9.out))) (Kd.R_lt (by (with_reducible repeat (first | apply Kd.RqA | apply Kd.RqN | apply Kd.RqD)); exact HO_10.out))) (Kd.R_lt (by (with_reducible repeat (first | apply Kd.RqA | apply Kd.RqN | apply Kd.RqD)); exact HO_1267002.out))) (Kd.R_lt (by (with_reducible repeat (first | apply Kd.RqA | apply Kd.RqN | apply Kd.RqD)); exact HO1279.out))) (bQZ (by repeat (first | (with_reducible first | exact HB.out | apply bQA | apply bQN | apply bQ1 | refine bQS ?_ GE1245.out | refine bQS ?_ GE1266.out) | exact HB.out)))); have n6_ := Aq.mk (kQB (g := gb1245) (o := .cells #[.int .i64 a0_0, .int .i64 a0_1, .slice A0_2 l0_2.length c0_2, .int .i64 a0_3] 45 (0, 0)) (by (with_reducible repeat (first | refine kQN ?_ _ | refine kQD ?_ | refine kQA ?_ _)); exact BK1245.out) hb); have n7_ := Aq.mk (kQB (g := gb1266) (o := .cells #[.int .i64 t1260, .int .i64 t1261, .slice Ao31 t1262.length co31, .int .i64 t1265] 49 (0, 0)) (by (with_reducible repeat (first | refine kQN ?_ _ | refine kQD ?_ | refine kQA ?_ _)); exact BK1266.out) hb); have n8_ := Aq.mk (bQT (by repeat (first | (with_reducible first | exact HB.out | apply bQA | apply bQN | apply bQ1 | refine bQS ?_ GE1245.out | refine bQS ?_ GE1266.out) | exact HB.out)) hb); clear HO_6; clear HO_9; clear HO_10; clear HO_1267002; clear HO1279; clear BK1245; clear BK1266; clear HB; have HO_6 := n0_; have HO_9 := n1_; have HO_10 := n2_; have HO_1267002 := n3_; have HO1279 := n4_; have HO1284 := n5_; have BK1245 := n6_; have BK1266 := n7_; have HB := n8_; clear n0_ n1_ n2_ n3_ n4_ n5_ n6_ n7_ n8_; (try clear hb); (try clear hb2); (try clear hk); (try clear hi); (try clear ho0); obtain ⟨Ao57, co57, eo57⟩ := Kd.R_slice HO1284.out; subst eo57) | ((with_reducible refine gQc (f := 22) rfl ?_); refine goesL_ (some 60) rfl rfl Try.func22 (by kernel_rfl) rfl #[.slice Ao34 t1267.length co34, .slice Ao57 t1282.length co57] rfl (by (try simp only [List.map_toArray, List.map_cons, List.map_nil]); first | done | rfl | (simp only [List.length_drop, List.length_take]; rfl)) ?_; (with_reducible refine (laws_eqInt64S.calls kj15 _ _ t1267 _ _ t1282 true _ ?side1 ?side2 ?side3 ?side4 A47.out).mono ?_); (case side1 => repeat (first | exact (Kd.R_reads' HO_9.out).2.2 | (with_reducible refine Kd.CqA ?_ _) | (with_reducible refine Kd.CqN ?_ _) | (with_reducible refine Kd.CqD ?_))); (case side2 => exact (Kd.R_reads' HO_9.out).2.1); (case side3 => repeat (first | exact (Kd.R_reads' HO1284.out).2.2 | (with_reducible refine Kd.CqA ?_ _) | (with_reducible refine Kd.CqN ?_ _) | (with_reducible refine Kd.CqD ?_))); (case side4 => exact (Kd.R_reads' HO1284.out).2.1); rintro e w' ⟨rfl, ⟨nd, rfl⟩⟩; refine ⟨_, rfl, ?_⟩; have hnb58 := NB1266_1245.out; have hnc58 := NB1245_1266.out; have hcz59_0 : w56.cell? ⟨gb1266, 0, none⟩ = some (.int .i64 t1260) := (kQC BK1266.out 0).trans rfl; have hcz59_1 : w56.cell? ⟨gb1266, 1, none⟩ = some (.int .i64 t1261) := (kQC BK1266.out 1).trans rfl; have hcz59_2 : w56.cell? ⟨gb1266, 2, none⟩ = some (.slice Ao31 t1262.length co31) := (kQC BK1266.out 2).trans rfl; have hcz59_3 : w56.cell? ⟨gb1266, 3, none⟩ = some (.int .i64 t1265) := (kQC BK1266.out 3).trans rfl; have hfz59_0 := kQF BK1266.out 0; have hfz59_1 := kQF BK1266.out 1; have hfz59_2 := kQF BK1266.out 2; have hfz59_3 := kQF BK1266.out 3) | ((with_reducible refine gQc (f := 61) rfl ?_); refine goesL_ (some 64) rfl rfl Try.func61 (by kernel_rfl) rfl #[.agg #[.int .i64 t1260, .int .i64 t1261, .slice Ao31 t1262.length co31, .int .i64 t1265], .int .i64 1] rfl (by (try simp only [List.map_toArray, List.map_cons, List.map_nil]); first | done | rfl | (simp only [List.length_drop, List.length_take]; rfl)) ?_; (with_reducible refine (laws_markGabidulin.calls kj15 t1260 t1261 (fun k_ => some k_ = (.slice Ao31 t1262.length co31 : Value).ownBlock) (.slice Ao31 t1262.length co31) t1262 t1265 1 t1286 t1287 w _ ?side1 ?side2 A49.out).mono ?_); (case side1 => repeat (first | (with_reducible first | exact HB.out | apply bQA | apply bQN | apply bQ1 | refine bQS ?_ GE1245.out | refine bQS ?_ GE1266.out) | exact HB.out)); (case side2 => exact Kd.R_tight rfl HO_1267002.out); rintro e w60 ⟨rfl, hy0, hb, hkp⟩; refine ⟨_, rfl, ?_⟩; have n0_ := Aq.mk (Kd.R_mono (ok' := fun k_ => some k_ ≠ (.slice Ao34 t1267.length co34 : Value).ownBlock ∧ some k_ ≠ (v1271 : Value).ownBlock ∧ some k_ ≠ (.slice Ao31 t1262.length co31 : Value).ownBlock ∧ some k_ ≠ (.slice Ao54 t1277.length co54 : Value).ownBlock ∧ some k_ ≠ (.slice Ao57 t1282.length co57 : Value).ownBlock) (Kd.R_keptB (HO_6.out) hkp (fun k_ hk_ hs_ => (hk_.1.1.2.2) hs_)) (fun k_ hk_ => ⟨hk_.1.1.1.1, hk_.1.1.1.2.1, hk_.1.1.1.2.2, hk_.1.1.2, hk_.1.2⟩)); have n1_ := Aq.mk (Kd.R_mono (ok' := fun k_ => some k_ ≠ (v1257 : Value).ownBlock ∧ some k_ ≠ (v1271 : Value).ownBlock ∧ some k_ ≠ (.slice Ao31 t1262.length co31 : Value).ownBlock ∧ some k_ ≠ (.slice Ao54 t1277.length co54 : Value).ownBlock ∧ some k_ ≠ (.slice Ao57 t1282.length co57 : Value).ownBlock) (Kd.R_keptB (HO_9.out) hkp (fun k_ hk_ hs_ => (hk_.1.1.2.2) hs_)) (fun k_ hk_ => ⟨hk_.1.1.1.1, hk_.1.1.1.2.1, hk_.1.1.1.2.2, hk_.1.1.2, hk_.1.2⟩)); have n2_ := Aq.mk (Kd.R_mono (ok' := fun k_ => some k_ ≠ (v1257 : Value).ownBlock ∧ some k_ ≠ (.slice Ao34 t1267.length co34 : Value).ownBlock ∧ some k_ ≠ (.slice Ao31 t1262.length co31 : Value).ownBlock ∧ some k_ ≠ (.slice Ao54 t1277.length co54 : Value).ownBlock ∧ some k_ ≠ (.slice Ao57 t1282.length co57 : Value).ownBlock) (Kd.R_keptB (HO_10.out) hkp (fun k_ hk_ hs_ => (hk_.1.1.2.2) hs_)) (fun k_ hk_ => ⟨hk_.1.1.1.1, hk_.1.1.1.2.1, hk_.1.1.1.2.2, hk_.1.1.2, hk_.1.2⟩)); have n3_ := Aq.mk (Kd.R_reok rfl hy0 (fun k_ e_ => HO_1267002.out.1 k_ e_)); have n4_ := Aq.mk (blk_kept (by (with_reducible repeat (first | refine kQN ?_ _ | refine kQD ?_ | refine kQA ?_ _)); exact BK1245.out) hkp (fun hs_ => (fun e_ => (Kd.R_ne HO_1267002.out BK1245.out (by decide)) e_) hs_)); have n5_ := Aq.mk (blk_kept (by (with_reducible repeat (first | refine kQN ?_ _ | refine kQD ?_ | refine kQA ?_ _)); exact BK1266.out) hkp (fun hs_ => (fun e_ => (Kd.R_ne HO_1267002.out BK1266.out (by decide)) e_) hs_)); have n6_ := Aq.mk (Kd.R_mono (ok' := fun k_ => some k_ ≠ (v1257 : Value).ownBlock ∧ some k_ ≠ (.slice Ao34 t1267.length co34 : Value).ownBlock ∧ some k_ ≠ (v1271 : Value).ownBlock ∧ some k_ ≠ (.slice Ao31 t1262.length co31 : Value).ownBlock ∧ some k_ ≠ (.slice Ao57 t1282.length co57 : Value).ownBlock) (Kd.R_keptB (HO1279.out) hkp (fun k_ hk_ hs_ => (hk_.1.2) hs_)) (fun k_ hk_ => ⟨hk_.1.1.1.1.1.2, hk_.1.1.1.1.2, hk_.1.1.1.2, hk_.1.1.2, hk_.1.2⟩)); have n7_ := Aq.mk (Kd.R_mono (ok' := fun k_ => some k_ ≠ (v1257 : Value).ownBlock ∧ some k_ ≠ (.slice Ao34 t1267.length co34 : Value).ownBlock ∧ some k_ ≠ (v1271 : Value).ownBlock ∧ some k_ ≠ (.slice Ao31 t1262.length co31 : Value).ownBlock ∧ some k_ ≠ (.slice Ao54 t1277.length co54 : Value).ownBlock) (Kd.R_keptB (HO1284.out) hkp (fun k_ hk_ hs_ => (hk_.1.2) hs_)) (fun k_ hk_ => ⟨hk_.1.1.1.1.1.2, hk_.1.1.1.1.2, hk_.1.1.1.2, hk_.1.1.2, hk_.1.2⟩)); have n8_ := Aq.mk (hb); clear HO_6; clear HO_9; clear HO_10; clear HO_1267002; clear BK1245; clear BK1266; clear HO1279; clear HO1284; clear HB; have HO_6 := n0_; have HO_9 := n1_; have HO_10 := n2_; have HO_1267002 := n3_; have BK1245 := n4_; have BK1266 := n5_; have HO1279 := n6_; have HO1284 := n7_; have HB := n8_; clear n0_ n1_ n2_ n3_ n4_ n5_ n6_ n7_ n8_; (try clear hb); (try clear hkp); (try clear hy0)) | ((with_reducible refine gQc (f := 23) rfl ?_); refine goesL_ (some 67) rfl rfl Try.func23 (by kernel_rfl) rfl #[.slice Ao34 t1267.length co34, .int .i64 t1286] rfl (by (try simp only [List.map_toArray, List.map_cons, List.map_nil]); first | done | rfl | (simp only [List.length_drop, List.length_take]; rfl)) ?_; (with_reducible refine (laws_markInt64S.calls kj15 (fun k_ => some k_ = (.slice Ao34 t1267.length co34 : Value).ownBlock) (.slice Ao34 t1267.length co34) t1267 t1286 t1288 t1289 w _ ?side1 ?side2 A50.out).mono ?_); (case side1 => repeat (first | (with_reducible first | exact HB.out | apply bQA | apply bQN | apply bQ1 | refine bQS ?_ GE1245.out | refine bQS ?_ GE1266.out) | exact HB.out)); (case side2 => exact Kd.R_tight rfl HO_9.out); rintro e w61 ⟨rfl, hy0, hb, hkp⟩; refine ⟨_, rfl, ?_⟩; have n0_ := Aq.mk (Kd.R_mono (ok' := fun k_ => some k_ ≠ (.slice Ao34 t1267.length co34 : Value).ownBlock ∧ some k_ ≠ (v1271 : Value).ownBlock ∧ some k_ ≠ (.slice Ao31 t1262.length co31 : Value).ownBlock ∧ some k_ ≠ (.slice Ao54 t1277.length co54 : Value).ownBlock ∧ some k_ ≠ (.slice Ao57 t1282.length co57 : Value).ownBlock) (Kd.R_keptB (HO_6.out) hkp (fun k_ hk_ hs_ => (hk_.1) hs_)) (fun k_ hk_ => ⟨hk_.1.1, hk_.1.2.1, hk_.1.2.2.1, hk_.1.2.2.2.1, hk_.1.2.2.2.2⟩)); have n1_ := Aq.mk (Kd.R_reok rfl hy0 (fun k_ e_ => HO_9.out.1 k_ e_)); have n2_ := Aq.mk (Kd.R_mono (ok' := fun k_ => some k_ ≠ (v1257 : Value).ownBlock ∧ some k_ ≠ (.slice Ao34 t1267.length co34 : Value).ownBlock ∧ some k_ ≠ (.slice Ao31 t1262.length co31 : Value).ownBlock ∧ some k_ ≠ (.slice Ao54 t1277.length co54 : Value).ownBlock ∧ some k_ ≠ (.slice Ao57 t1282.length co57 : Value).ownBlock) (Kd.R_keptB (HO_10.out) hkp (fun k_ hk_ hs_ => (hk_.2.1) hs_)) (fun k_ hk_ => ⟨hk_.1.1, hk_.1.2.1, hk_.1.2.2.1, hk_.1.2.2.2.1, hk_.1.2.2.2.2⟩)); have n3_ := Aq.mk (Kd.R_mono (ok' := fun k_ => some k_ ≠ (v1257 : Value).ownBlock ∧ some k_ ≠ (.slice Ao34 t1267.length co34 : Value).ownBlock ∧ some k_ ≠ (v1271 : Value).ownBlock ∧ some k_ ≠ (.slice Ao54 t1277.length co54 : Value).ownBlock ∧ some k_ ≠ (.slice Ao57 t1282.length co57 : Value).ownBlock) (Kd.R_keptB (HO_1267002.out) hkp (fun k_ hk_ hs_ => (hk_.1.1.2.1) hs_)) (fun k_ hk_ => ⟨hk_.1.1.1.1, hk_.1.1.1.2.1, hk_.1.1.1.2.2, hk_.1.1.2, hk_.1.2⟩)); have n4_ := Aq.mk (blk_kept (by (with_reducible repeat (first | refine kQN ?_ _ | refine kQD ?_ | refine kQA ?_ _)); exact BK1245.out) hkp (fun hs_ => (fun e_ => (Kd.R_ne HO_9.out BK1245.out (by decide)) e_) hs_)); have n5_ := Aq.mk (blk_kept (by (with_reducible repeat (first | refine kQN ?_ _ | refine kQD ?_ | refine kQA ?_ _)); exact BK1266.out) hkp (fun hs_ => (fun e_ => (Kd.R_ne HO_9.out BK1266.out (by decide)) e_) hs_)); have n6_ := Aq.mk (Kd.R_mono (ok' := fun k_ => some k_ ≠ (v1257 : Value).ownBlock ∧ some k_ ≠ (.slice Ao34 t1267.length co34 : Value).ownBlock ∧ some k_ ≠ (v1271 : Value).ownBlock ∧ some k_ ≠ (.slice Ao31 t1262.length co31 : Value).ownBlock ∧ some k_ ≠ (.slice Ao57 t1282.length co57 : Value).ownBlock) (Kd.R_keptB (HO1279.out) hkp (fun k_ hk_ hs_ => (hk_.2.1) hs_)) (fun k_ hk_ => ⟨hk_.1.1, hk_.1.2.1, hk_.1.2.2.1, hk_.1.2.2.2.1, hk_.1.2.2.2.2⟩)); have n7_ := Aq.mk (Kd.R_mono (ok' := fun k_ => some k_ ≠ (v1257 : Value).ownBlock ∧ some k_ ≠ (.slice Ao34 t1267.length co34 : Value).ownBlock ∧ some k_ ≠ (v1271 : Value).ownBlock ∧ some k_ ≠ (.slice Ao31 t1262.length co31 : Value).ownBlock ∧ some k_ ≠ (.slice Ao54 t1277.length co54 : Value).ownBlock) (Kd.R_keptB (HO1284.out) hkp (fun k_ hk_ hs_ => (hk_.2.1) hs_)) (fun k_ hk_ => ⟨hk_.1.1, hk_.1.2.1, hk_.1.2.2.1, hk_.1.2.2.2.1, hk_.1.2.2.2.2⟩)); have n8_ := Aq.mk (hb); clear HO_6; clear HO_9; clear HO_10; clear HO_1267002; clear BK1245; clear BK1266; clear HO1279; clear HO1284; clear HB; have HO_6 := n0_; have HO_9 := n1_; have HO_10 := n2_; have HO_1267002 := n3_; have BK1245 := n4_; have BK1266 := n5_; have HO1279 := n6_; have HO1284 := n7_; have HB := n8_; clear n0_ n1_ n2_ n3_ n4_ n5_ n6_ n7_ n8_; (try clear hb); (try clear hkp); (try clear hy0)))
        (try simp only [Act.put, qSa, qSb, qSc])
        go_cut [80] (fun v80 wc => ∃ (kq : Nat) (x80_50 : Bool), v80 = .bool x80_50 ∧ Aq (laws_FnExactEncodeGabidulin.j1 kq l1 t1256 t1259 t1270 x80_50 a0_0 a0_1 l0_2 a0_3 = some r) ∧ Aq (kq ≤ kj15) ∧ Aq (Kd.R (Kd.int .i64) 2 wc w.heap.size (fun k_ => some k_ ≠ (v1271 : Value).ownBlock ∧ some k_ ≠ ((.slice Ao31 t1262.length co31) : Value).ownBlock) v1257 t1256) ∧ Aq (Kd.R (Kd.int .i64) 2 wc w.heap.size (fun k_ => some k_ ≠ (v1257 : Value).ownBlock ∧ some k_ ≠ ((.slice Ao31 t1262.length co31) : Value).ownBlock) v1271 t1270) ∧ Aq (Kd.R (Kd.int .i64) 2 wc w.heap.size (fun k_ => some k_ ≠ (v1257 : Value).ownBlock ∧ some k_ ≠ (v1271 : Value).ownBlock) (.slice Ao31 t1262.length co31) t1287) ∧ Aq (wc.heap[gb1245]? = some (.cells #[.int .i64 a0_0, .int .i64 a0_1, (.slice A0_2 l0_2.length c0_2), .int .i64 a0_3] 45 (0, 0))) ∧ Aq (wc.heap[gb1266]? = some (.cells #[.int .i64 t1260, .int .i64 t1261, (.slice Ao31 t1262.length co31), .int .i64 t1265] 49 (0, 0))) ∧ Aq (Below w.heap.size w wc))
        case first =>
         have H := HC51.out
         clear HC51
         by_cases c62 : t1288 < 0
         ·rw [if_pos c62] at H
          have c62b0 : decide (t1288 < 0) = true := decide_eq_true c62
          clear c62
          (first | rw [c62b0] | (simp only [i64_w, i32_w]; rw [c62b0]) | skip)
          have H' := Aq.mk H
          clear H
          go_wp2
          go_meet
          case rel => exact ⟨_, (true), (by first | rfl | (simp; done) | (simp [*]; done)), H', ⟨by have := HJ15.out; first | omega | exact Nat.le_refl _⟩, ⟨by (with_reducible repeat (first | apply Kd.RqA | apply Kd.RqN | apply Kd.RqD)); exact Kd.R_mono HO_6.out (fun _ hk => ⟨hk.2.1, hk.2.2.1⟩)⟩, ⟨by (with_reducible repeat (first | apply Kd.RqA | apply Kd.RqN | apply Kd.RqD)); exact Kd.R_mono HO_10.out (fun _ hk => ⟨hk.1, hk.2.2.1⟩)⟩, ⟨by (with_reducible repeat (first | apply Kd.RqA | apply Kd.RqN | apply Kd.RqD)); exact Kd.R_mono HO_1267002.out (fun _ hk => ⟨hk.1, hk.2.2.1⟩)⟩, ⟨by (with_reducible repeat (first | refine kQN ?_ _ | refine kQD ?_ | refine kQA ?_ _)); exact BK1245.out⟩, ⟨by (with_reducible repeat (first | refine kQN ?_ _ | refine kQD ?_ | refine kQA ?_ _)); exact BK1266.out⟩, ⟨by repeat (first | (with_reducible first | exact HB.out | apply bQA | apply bQN | apply bQ1 | refine bQS ?_ GE1245.out | refine bQS ?_ GE1266.out) | exact HB.out)⟩⟩
         ·rw [if_neg c62] at H
          have c62b0 : decide (t1288 < 0) = false := decide_eq_false c62
          clear c62
          (first | rw [c62b0] | (simp only [i64_w, i32_w]; rw [c62b0]) | skip)
          replace H := Option.bind_eq_some_iff.mp H
          obtain ⟨t1290, A630, H⟩ := H
          replace H : (if t1290 = true then (laws_FnExactEncodeGabidulin.j1 kj15 l1 t1256 t1259 t1270 (t1273 != t1259) a0_0 a0_1 l0_2 a0_3) else (laws_FnExactEncodeGabidulin.j1 kj15 l1 t1256 t1259 t1270 true a0_0 a0_1 l0_2 a0_3)) = some r := H
          have A63 := Aq.mk A630
          clear A630
          by_cases c64 : t1290 = true
          ·subst c64
           have H1 : (laws_FnExactEncodeGabidulin.j1 kj15 l1 t1256 t1259 t1270 (t1273 != t1259) a0_0 a0_1 l0_2 a0_3) = some r := by rw [if_pos rfl] at H; exact H
           clear H
           have H := H1
           clear H1
           have H' := Aq.mk H
           clear H
           obtain ⟨Ao65, co65, eo65⟩ := Kd.R_slice HO_10.out
           subst eo65
           obtain ⟨Ao66, co66, eo66⟩ := Kd.R_slice HO_6.out
           subst eo66
           go_wp2_with (first | (go_at_call 22; (with_reducible refine (laws_eqInt64S.calls kj15 _ _ t1270 _ _ t1256 true _ ?side1 ?side2 ?side3 ?side4 A63.out).mono ?_); (case side1 => repeat (first | exact (Kd.R_reads' HO_10.out).2.2 | (with_reducible refine Kd.CqA ?_ _) | (with_reducible refine Kd.CqN ?_ _) | (with_reducible refine Kd.CqD ?_))); (case side2 => exact (Kd.R_reads' HO_10.out).2.1); (case side3 => repeat (first | exact (Kd.R_reads' HO_6.out).2.2 | (with_reducible refine Kd.CqA ?_ _) | (with_reducible refine Kd.CqN ?_ _) | (with_reducible refine Kd.CqD ?_))); (case side4 => exact (Kd.R_reads' HO_6.out).2.1); rintro e w' ⟨rfl, ⟨nd, rfl⟩⟩))
           go_meet
           case rel => exact ⟨_, ((t1273 != t1259)), (by first | rfl | (simp; done) | (simp [*]; done)), H', ⟨by have := HJ15.out; first | omega | exact Nat.le_refl _⟩, ⟨by (with_reducible repeat (first | apply Kd.RqA | apply Kd.RqN | apply Kd.RqD)); exact Kd.R_mono HO_6.out (fun _ hk => ⟨hk.2.1, hk.2.2.1⟩)⟩, ⟨by (with_reducible repeat (first | apply Kd.RqA | apply Kd.RqN | apply Kd.RqD)); exact Kd.R_mono HO_10.out (fun _ hk => ⟨hk.1, hk.2.2.1⟩)⟩, ⟨by (with_reducible repeat (first | apply Kd.RqA | apply Kd.RqN | apply Kd.RqD)); exact Kd.R_mono HO_1267002.out (fun _ hk => ⟨hk.1, hk.2.2.1⟩)⟩, ⟨by (with_reducible repeat (first | refine kQN ?_ _ | refine kQD ?_ | refine kQA ?_ _)); exact BK1245.out⟩, ⟨by (with_reducible repeat (first | refine kQN ?_ _ | refine kQD ?_ | refine kQA ?_ _)); exact BK1266.out⟩, ⟨by repeat (first | (with_reducible first | exact HB.out | apply bQA | apply bQN | apply bQ1 | refine bQS ?_ GE1245.out | refine bQS ?_ GE1266.out) | exact HB.out)⟩⟩
          ·replace c64 := Bool.eq_false_iff.mpr c64
           subst c64
           have H1 : (laws_FnExactEncodeGabidulin.j1 kj15 l1 t1256 t1259 t1270 true a0_0 a0_1 l0_2 a0_3) = some r := by rw [if_neg (show ¬ (false = true) by decide)] at H; exact H
           clear H
           have H := H1
           clear H1
           have H' := Aq.mk H
           clear H
           obtain ⟨Ao67, co67, eo67⟩ := Kd.R_slice HO_10.out
           subst eo67
           obtain ⟨Ao68, co68, eo68⟩ := Kd.R_slice HO_6.out
           subst eo68
           go_wp2_with (first | (go_at_call 22; (with_reducible refine (laws_eqInt64S.calls kj15 _ _ t1270 _ _ t1256 false _ ?side1 ?side2 ?side3 ?side4 A63.out).mono ?_); (case side1 => repeat (first | exact (Kd.R_reads' HO_10.out).2.2 | (with_reducible refine Kd.CqA ?_ _) | (with_reducible refine Kd.CqN ?_ _) | (with_reducible refine Kd.CqD ?_))); (case side2 => exact (Kd.R_reads' HO_10.out).2.1); (case side3 => repeat (first | exact (Kd.R_reads' HO_6.out).2.2 | (with_reducible refine Kd.CqA ?_ _) | (with_reducible refine Kd.CqN ?_ _) | (with_reducible refine Kd.CqD ?_))); (case side4 => exact (Kd.R_reads' HO_6.out).2.1); rintro e w' ⟨rfl, ⟨nd, rfl⟩⟩))
           go_meet
           case rel => exact ⟨_, (true), (by first | rfl | (simp; done) | (simp [*]; done)), H', ⟨by have := HJ15.out; first | omega | exact Nat.le_refl _⟩, ⟨by (with_reducible repeat (first | apply Kd.RqA | apply Kd.RqN | apply Kd.RqD)); exact Kd.R_mono HO_6.out (fun _ hk => ⟨hk.2.1, hk.2.2.1⟩)⟩, ⟨by (with_reducible repeat (first | apply Kd.RqA | apply Kd.RqN | apply Kd.RqD)); exact Kd.R_mono HO_10.out (fun _ hk => ⟨hk.1, hk.2.2.1⟩)⟩, ⟨by (with_reducible repeat (first | apply Kd.RqA | apply Kd.RqN | apply Kd.RqD)); exact Kd.R_mono HO_1267002.out (fun _ hk => ⟨hk.1, hk.2.2.1⟩)⟩, ⟨by (with_reducible repeat (first | refine kQN ?_ _ | refine kQD ?_ | refine kQA ?_ _)); exact BK1245.out⟩, ⟨by (with_reducible repeat (first | refine kQN ?_ _ | refine kQD ?_ | refine kQA ?_ _)); exact BK1266.out⟩, ⟨by repeat (first | (with_reducible first | exact HB.out | apply bQA | apply bQN | apply bQ1 | refine bQS ?_ GE1245.out | refine bQS ?_ GE1266.out) | exact HB.out)⟩⟩
        case rest =>
         clear HC51
         try clear c1
         try clear c2
         try clear p2
         try clear c3
         try clear c3b0
         try clear c3b1
         try clear c4
         try clear c5
         try clear c6
         try clear c6b0
         try clear c16
         try clear c19
         try clear c22
         try clear c23
         try clear c29
         try clear c35
         try clear c37
         try clear c39
         try clear c42
         try clear c45
         try clear c48
         try clear c58
         try clear c61
         try clear c62
         try clear c62b0
         try clear c63
         try clear c64
         try clear hcz18_0
         try clear hcz18_1
         try clear hcz18_2
         try clear hcz18_3
         try clear hcz20_0
         try clear hcz20_1
         try clear hcz20_2
         try clear hcz20_3
         try clear hcz26_0
         try clear hcz26_1
         try clear hcz26_2
         try clear hcz26_3
         try clear hcz30_0
         try clear hcz30_1
         try clear hcz30_2
         try clear hcz30_3
         try clear hcz33_0
         try clear hcz33_1
         try clear hcz33_2
         try clear hcz33_3
         try clear hcz59_0
         try clear hcz59_1
         try clear hcz59_2
         try clear hcz59_3
         try clear hcz8_0
         try clear hcz8_1
         try clear hcz8_2
         try clear hcz8_3
         try clear hfz18_0
         try clear hfz18_1
         try clear hfz18_2
         try clear hfz18_3
         try clear hfz20_0
         try clear hfz20_1
         try clear hfz20_2
         try clear hfz20_3
         try clear hfz26_0
         try clear hfz26_1
         try clear hfz26_2
         try clear hfz26_3
         try clear hfz30_0
         try clear hfz30_1
         try clear hfz30_2
         try clear hfz30_3
         try clear hfz33_0
         try clear hfz33_1
         try clear hfz33_2
         try clear hfz33_3
         try clear hfz59_0
         try clear hfz59_1
         try clear hfz59_2
         try clear hfz59_3
         try clear hfz8_0
         try clear hfz8_1
         try clear hfz8_2
         try clear hfz8_3
         try clear p2
         obtain ⟨kq, x80_50, rfl, HA, HJ50, HO_6, HO_10, HO_1267002, BK1245, BK1266, HB⟩ := hcut
         have hl1267002_50 := (Kd.R_reads' HO_1267002.out).1
         rw [hl1267002_50] at HO_1267002
         (try simp only [hl1267002_50])
         (try simp only [hl1267002_50] at BK1245)
         (try simp only [hl1267002_50] at BK1266)
         (try simp only [hl1267002_50] at HO_6)
         (try simp only [hl1267002_50] at HO_10)
         cases kq with
         | zero => exact absurd HA.out (by simp [laws_FnExactEncodeGabidulin.j1])
         | succ kj50 =>
          have H := HA.out
          clear HA
          simp only [laws_FnExactEncodeGabidulin.j1] at H
          by_cases c69 : x80_50 = true
          ·subst c69
           have H1 : (some false) = some r := by rw [if_pos rfl] at H; exact H
           clear H
           have H := H1
           clear H1
           obtain rfl := Option.some.inj H
           go_wp2
           go_ret
           exact ⟨by first | rfl | (simp [errW_none, errW_some] <;> rfl) | (simp [*, errW_none, errW_some] <;> rfl), by repeat (first | (with_reducible first | exact HB.out | apply bQA | apply bQN | apply bQ1 | refine bQS ?_ GE1245.out | refine bQS ?_ GE1266.out) | exact HB.out)⟩
          ·replace c69 := Bool.eq_false_iff.mpr c69
           subst c69
           have H1 : ((laws_markInt64S.f kj50 t1270 1).bind fun bt1291 => ((laws_heldInt64S.f kj50 bt1291.2 1).bind fun t1293 => (if t1293 < 0 then (some false) else (if t1293 = bt1291.1 then ((laws_toGabidulin.f kj50 a0_0 a0_1 l0_2 a0_3).bind fun bt1294 => ((laws_toInt64S.f kj50 l1).bind fun t1300 => ((impl_EncodeGabidulin.f kj50 bt1294.1 bt1294.2.1 bt1294.2.2.1 bt1294.2.2.2 t1300).bind fun bt1303 => ((laws_eqInt64S.f kj50 bt1303.1 t1256).bind fun t1307 => (if t1307 = true then (laws_FnExactEncodeGabidulin.j2 kj50 bt1291.2 bt1291.1 (bt1303.2 != t1259)) else (laws_FnExactEncodeGabidulin.j2 kj50 bt1291.2 bt1291.1 true)))))) else (some false))))) = some r := by rw [if_neg (show ¬ (false = true) by decide)] at H; exact H
           clear H
           have H := H1
           clear H1
           replace H := Option.bind_eq_some_iff.mp H
           obtain ⟨⟨t1291, t1292⟩, A700, H⟩ := H
           replace H : ((laws_heldInt64S.f kj50 t1292 1).bind fun t1293 => (if t1293 < 0 then (some false) else (if t1293 = t1291 then ((laws_toGabidulin.f kj50 a0_0 a0_1 l0_2 a0_3).bind fun bt1294 => ((laws_toInt64S.f kj50 l1).bind fun t1300 => ((impl_EncodeGabidulin.f kj50 bt1294.1 bt1294.2.1 bt1294.2.2.1 bt1294.2.2.2 t1300).bind fun bt1303 => ((laws_eqInt64S.f kj50 bt1303.1 t1256).bind fun t1307 => (if t1307 = true then (laws_FnExactEncodeGabidulin.j2 kj50 t1292 t1291 (bt1303.2 != t1259)) else (laws_FnExactEncodeGabidulin.j2 kj50 t1292 t1291 true)))))) else (some false)))) = some r := H
           have A70 := Aq.mk A700
           clear A700
           replace H := Option.bind_eq_some_iff.mp H
           obtain ⟨t1293, A710, H⟩ := H
           replace H : (if t1293 < 0 then (some false) else (if t1293 = t1291 then ((laws_toGabidulin.f kj50 a0_0 a0_1 l0_2 a0_3).bind fun bt1294 => ((laws_toInt64S.f kj50 l1).bind fun t1300 => ((impl_EncodeGabidulin.f kj50 bt1294.1 bt1294.2.1 bt1294.2.2.1 bt1294.2.2.2 t1300).bind fun bt1303 => ((laws_eqInt64S.f kj50 bt1303.1 t1256).bind fun t1307 => (if t1307 = true then (laws_FnExactEncodeGabidulin.j2 kj50 t1292 t1291 (bt1303.2 != t1259)) else (laws_FnExactEncodeGabidulin.j2 kj50 t1292 t1291 true)))))) else (some false))) = some r := H
           have A71 := Aq.mk A710
           clear A710
           by_cases c72 : t1293 < 0
           ·rw [if_pos c72] at H
            have c72b0 : decide (t1293 < 0) = true := decide_eq_true c72
            clear c72
            (try (have c72b0z := c72b0; simp only [hl1267002_50] at c72b0z))
            obtain rfl := Option.some.inj H
            obtain ⟨Ao73, co73, eo73⟩ := Kd.R_slice HO_10.out
            subst eo73
            go_wp2_with (first | ((with_reducible refine gQc (f := 23) rfl ?_); refine goesL_ (some 83) rfl rfl Try.func23 (by kernel_rfl) rfl #[.slice Ao73 t1270.length co73, .int .i64 1] rfl (by (try simp only [List.map_toArray, List.map_cons, List.map_nil]); first | done | rfl | (simp only [List.length_drop, List.length_take]; rfl)) ?_; (with_reducible refine (laws_markInt64S.calls kj50 (fun k_ => some k_ = (.slice Ao73 t1270.length co73 : Value).ownBlock) (.slice Ao73 t1270.length co73) t1270 1 t1291 t1292 w _ ?side1 ?side2 A70.out).mono ?_); (case side1 => repeat (first | (with_reducible first | exact HB.out | apply bQA | apply bQN | apply bQ1 | refine bQS ?_ GE1245.out | refine bQS ?_ GE1266.out) | exact HB.out)); (case side2 => exact Kd.R_tight rfl HO_10.out); rintro e w74 ⟨rfl, hy0, hb, hkp⟩; refine ⟨_, rfl, ?_⟩; have n0_ := Aq.mk (Kd.R_mono (ok' := fun k_ => some k_ ≠ (.slice Ao73 t1270.length co73 : Value).ownBlock ∧ some k_ ≠ (.slice Ao31 t1287.length co31 : Value).ownBlock) (Kd.R_keptB (HO_6.out) hkp (fun k_ hk_ hs_ => (hk_.1) hs_)) (fun k_ hk_ => ⟨hk_.1.1, hk_.1.2⟩)); have n1_ := Aq.mk (Kd.R_reok rfl hy0 (fun k_ e_ => HO_10.out.1 k_ e_)); have n2_ := Aq.mk (Kd.R_mono (ok' := fun k_ => some k_ ≠ (v1257 : Value).ownBlock ∧ some k_ ≠ (.slice Ao73 t1270.length co73 : Value).ownBlock) (Kd.R_keptB (HO_1267002.out) hkp (fun k_ hk_ hs_ => (hk_.2) hs_)) (fun k_ hk_ => ⟨hk_.1.1, hk_.1.2⟩)); have n3_ := Aq.mk (blk_kept (by (with_reducible repeat (first | refine kQN ?_ _ | refine kQD ?_ | refine kQA ?_ _)); exact BK1245.out) hkp (fun hs_ => (fun e_ => (Kd.R_ne HO_10.out BK1245.out (by decide)) e_) hs_)); have n4_ := Aq.mk (blk_kept (by (with_reducible repeat (first | refine kQN ?_ _ | refine kQD ?_ | refine kQA ?_ _)); exact BK1266.out) hkp (fun hs_ => (fun e_ => (Kd.R_ne HO_10.out BK1266.out (by decide)) e_) hs_)); have n5_ := Aq.mk (hb); clear HO_6; clear HO_10; clear HO_1267002; clear BK1245; clear BK1266; clear HB; have HO_6 := n0_; have HO_10 := n1_; have HO_1267002 := n2_; have BK1245 := n3_; have BK1266 := n4_; have HB := n5_; clear n0_ n1_ n2_ n3_ n4_ n5_; (try clear hb); (try clear hkp); (try clear hy0)) | ((with_reducible refine gQc (f := 32) rfl ?_); refine goesL_ (some 86) rfl rfl Try.func32 (by kernel_rfl) rfl #[.slice Ao73 t1292.length co73, .int .i64 1] rfl (by (try simp only [List.map_toArray, List.map_cons, List.map_nil]); first | done | (rw [show t1292.length = t1270.length from (Kd.R_reads' HO_10.out).1.symm] <;> rfl) | rfl | (simp only [List.length_drop, List.length_take]; rfl)) ?_; (with_reducible refine (laws_heldInt64S.calls kj50 _ _ t1292 1 t1293 _ ?side1 ?side2 A71.out).mono ?_); (case side1 => repeat (first | exact (Kd.R_reads' HO_10.out).2.2 | (with_reducible refine Kd.CqA ?_ _) | (with_reducible refine Kd.CqN ?_ _) | (with_reducible refine Kd.CqD ?_))); (case side2 => rw [show t1292.length = t1270.length from (Kd.R_reads' HO_10.out).1.symm]; exact (Kd.R_reads' HO_10.out).2.1); rintro e w' ⟨rfl, ⟨nd, rfl⟩⟩; refine ⟨_, rfl, ?_⟩))
            go_ret
            exact ⟨by first | rfl | (simp [errW_none, errW_some] <;> rfl) | (simp [*, errW_none, errW_some] <;> rfl), by repeat (first | (with_reducible first | exact HB.out | apply bQA | apply bQN | apply bQ1 | refine bQS ?_ GE1245.out | refine bQS ?_ GE1266.out) | exact HB.out)⟩
           ·rw [if_neg c72] at H
            have c72b0 : decide (t1293 < 0) = false := decide_eq_false c72
            clear c72
            (try (have c72b0z := c72b0; simp only [hl1267002_50] at c72b0z))
            by_cases c75 : t1293 = t1291
            ·rw [if_pos c75] at H
             have c75b0 : (t1293 == t1291) = true := beq_iff_eq.mpr c75
             have c75b1 : (t1293 != t1291) = false := bne_eq_false_iff_eq.mpr c75
             clear c75
             (try (have c75b0z := c75b0; simp only [hl1267002_50] at c75b0z))
             (try (have c75b1z := c75b1; simp only [hl1267002_50] at c75b1z))
             replace H := Option.bind_eq_some_iff.mp H
             obtain ⟨⟨t1294, t1295, t1296, t1299⟩, A760, H⟩ := H
             replace H : ((laws_toInt64S.f kj50 l1).bind fun t1300 => ((impl_EncodeGabidulin.f kj50 t1294 t1295 t1296 t1299 t1300).bind fun bt1303 => ((laws_eqInt64S.f kj50 bt1303.1 t1256).bind fun t1307 => (if t1307 = true then (laws_FnExactEncodeGabidulin.j2 kj50 t1292 t1291 (bt1303.2 != t1259)) else (laws_FnExactEncodeGabidulin.j2 kj50 t1292 t1291 true))))) = some r := H
             have A76 := Aq.mk A760
             clear A760
             replace H := Option.bind_eq_some_iff.mp H
             obtain ⟨t1300, A770, H⟩ := H
             replace H : ((impl_EncodeGabidulin.f kj50 t1294 t1295 t1296 t1299 t1300).bind fun bt1303 => ((laws_eqInt64S.f kj50 bt1303.1 t1256).bind fun t1307 => (if t1307 = true then (laws_FnExactEncodeGabidulin.j2 kj50 t1292 t1291 (bt1303.2 != t1259)) else (laws_FnExactEncodeGabidulin.j2 kj50 t1292 t1291 true)))) = some r := H
             have A77 := Aq.mk A770
             clear A770
             replace H := Option.bind_eq_some_iff.mp H
             obtain ⟨⟨t1303, t1306⟩, A780, H⟩ := H
             replace H : ((laws_eqInt64S.f kj50 t1303 t1256).bind fun t1307 => (if t1307 = true then (laws_FnExactEncodeGabidulin.j2 kj50 t1292 t1291 (t1306 != t1259)) else (laws_FnExactEncodeGabidulin.j2 kj50 t1292 t1291 true))) = some r := H
             have A78 := Aq.mk A780
             clear A780
             have HC79 := Aq.mk H
             clear H
             obtain ⟨Ao80, co80, eo80⟩ := Kd.R_slice HO_10.out
             subst eo80
             go_upto_region 31 with (first | ((with_reducible refine gQc (f := 23) rfl ?_); refine goesL_ (some 83) rfl rfl Try.func23 (by kernel_rfl) rfl #[.slice Ao80 t1270.length co80, .int .i64 1] rfl (by (try simp only [List.map_toArray, List.map_cons, List.map_nil]); first | done | rfl | (simp only [List.length_drop, List.length_take]; rfl)) ?_; (with_reducible refine (laws_markInt64S.calls kj50 (fun k_ => some k_ = (.slice Ao80 t1270.length co80 : Value).ownBlock) (.slice Ao80 t1270.length co80) t1270 1 t1291 t1292 w _ ?side1 ?side2 A70.out).mono ?_); (case side1 => repeat (first | (with_reducible first | exact HB.out | apply bQA | apply bQN | apply bQ1 | refine bQS ?_ GE1245.out | refine bQS ?_ GE1266.out) | exact HB.out)); (case side2 => exact Kd.R_tight rfl HO_10.out); rintro e w81 ⟨rfl, hy0, hb, hkp⟩; refine ⟨_, rfl, ?_⟩; have n0_ := Aq.mk (Kd.R_mono (ok' := fun k_ => some k_ ≠ (.slice Ao80 t1270.length co80 : Value).ownBlock ∧ some k_ ≠ (.slice Ao31 t1287.length co31 : Value).ownBlock) (Kd.R_keptB (HO_6.out) hkp (fun k_ hk_ hs_ => (hk_.1) hs_)) (fun k_ hk_ => ⟨hk_.1.1, hk_.1.2⟩)); have n1_ := Aq.mk (Kd.R_reok rfl hy0 (fun k_ e_ => HO_10.out.1 k_ e_)); have n2_ := Aq.mk (Kd.R_mono (ok' := fun k_ => some k_ ≠ (v1257 : Value).ownBlock ∧ some k_ ≠ (.slice Ao80 t1270.length co80 : Value).ownBlock) (Kd.R_keptB (HO_1267002.out) hkp (fun k_ hk_ hs_ => (hk_.2) hs_)) (fun k_ hk_ => ⟨hk_.1.1, hk_.1.2⟩)); have n3_ := Aq.mk (blk_kept (by (with_reducible repeat (first | refine kQN ?_ _ | refine kQD ?_ | refine kQA ?_ _)); exact BK1245.out) hkp (fun hs_ => (fun e_ => (Kd.R_ne HO_10.out BK1245.out (by decide)) e_) hs_)); have n4_ := Aq.mk (blk_kept (by (with_reducible repeat (first | refine kQN ?_ _ | refine kQD ?_ | refine kQA ?_ _)); exact BK1266.out) hkp (fun hs_ => (fun e_ => (Kd.R_ne HO_10.out BK1266.out (by decide)) e_) hs_)); have n5_ := Aq.mk (hb); clear HO_6; clear HO_10; clear HO_1267002; clear BK1245; clear BK1266; clear HB; have HO_6 := n0_; have HO_10 := n1_; have HO_1267002 := n2_; have BK1245 := n3_; have BK1266 := n4_; have HB := n5_; clear n0_ n1_ n2_ n3_ n4_ n5_; (try clear hb); (try clear hkp); (try clear hy0)) | ((with_reducible refine gQc (f := 32) rfl ?_); refine goesL_ (some 86) rfl rfl Try.func32 (by kernel_rfl) rfl #[.slice Ao80 t1292.length co80, .int .i64 1] rfl (by (try simp only [List.map_toArray, List.map_cons, List.map_nil]); first | done | (rw [show t1292.length = t1270.length from (Kd.R_reads' HO_10.out).1.symm] <;> rfl) | rfl | (simp only [List.length_drop, List.length_take]; rfl)) ?_; (with_reducible refine (laws_heldInt64S.calls kj50 _ _ t1292 1 t1293 _ ?side1 ?side2 A71.out).mono ?_); (case side1 => repeat (first | exact (Kd.R_reads' HO_10.out).2.2 | (with_reducible refine Kd.CqA ?_ _) | (with_reducible refine Kd.CqN ?_ _) | (with_reducible refine Kd.CqD ?_))); (case side2 => rw [show t1292.length = t1270.length from (Kd.R_reads' HO_10.out).1.symm]; exact (Kd.R_reads' HO_10.out).2.1); rintro e w' ⟨rfl, ⟨nd, rfl⟩⟩; refine ⟨_, rfl, ?_⟩; have hnb82 := NB1245_1266.out; have hnc82 := NB1266_1245.out; have hcz83_0 : w81.cell? ⟨gb1245, 0, none⟩ = some (.int .i64 a0_0) := (kQC BK1245.out 0).trans rfl; have hcz83_1 : w81.cell? ⟨gb1245, 1, none⟩ = some (.int .i64 a0_1) := (kQC BK1245.out 1).trans rfl; have hcz83_2 : w81.cell? ⟨gb1245, 2, none⟩ = some (.slice A0_2 l0_2.length c0_2) := (kQC BK1245.out 2).trans rfl; have hcz83_3 : w81.cell? ⟨gb1245, 3, none⟩ = some (.int .i64 a0_3) := (kQC BK1245.out 3).trans rfl; have hfz83_0 := kQF BK1245.out 0; have hfz83_1 := kQF BK1245.out 1; have hfz83_2 := kQF BK1245.out 2; have hfz83_3 := kQF BK1245.out 3) | ((with_reducible refine gQc (f := 37) rfl ?_); refine goesL_ (some 94) rfl rfl Try.func37 (by kernel_rfl) rfl #[.agg #[.int .i64 a0_0, .int .i64 a0_1, .slice A0_2 l0_2.length c0_2, .int .i64 a0_3]] rfl (by (try simp only [List.map_toArray, List.map_cons, List.map_nil]); first | done | rfl | (simp only [List.length_drop, List.length_take]; rfl)) ?_; (with_reducible refine (laws_toGabidulin.calls kj50 a0_0 a0_1 _ _ l0_2 a0_3 t1294 t1295 t1296 t1299 _ ?side1 ?side2 A76.out).mono ?_); (case side1 => repeat (first | exact (Kd.C_below HR0_2.out (by repeat (first | (with_reducible first | exact HB.out | apply bQA | apply bQN | apply bQ1 | refine bQS ?_ GE1245.out | refine bQS ?_ GE1266.out) | exact HB.out))) | (with_reducible refine Kd.CqA ?_ _) | (with_reducible refine Kd.CqN ?_ _) | (with_reducible refine Kd.CqD ?_))); (case side2 => exact HC0_2.out); rintro e w84 ⟨v1297, rfl, ho0, hb⟩; refine ⟨_, rfl, ?_⟩; have n0_ := Aq.mk (Kd.R_elder' (by (with_reducible repeat (first | apply Kd.RqA | apply Kd.RqN | apply Kd.RqD)); exact HO_6.out) (Kd.R_base ho0) hb); have n1_ := Aq.mk (Kd.R_elder' (by (with_reducible repeat (first | apply Kd.RqA | apply Kd.RqN | apply Kd.RqD)); exact HO_10.out) (Kd.R_base ho0) hb); have n2_ := Aq.mk (Kd.R_elder' (by (with_reducible repeat (first | apply Kd.RqA | apply Kd.RqN | apply Kd.RqD)); exact HO_1267002.out) (Kd.R_base ho0) hb); have n3_ := Aq.mk (Kd.R_lower (Kd.R_new' (Kd.R_new' (Kd.R_new' ho0 (Kd.R_lt (by (with_reducible repeat (first | apply Kd.RqA | apply Kd.RqN | apply Kd.RqD)); exact HO_6.out))) (Kd.R_lt (by (with_reducible repeat (first | apply Kd.RqA | apply Kd.RqN | apply Kd.RqD)); exact HO_10.out))) (Kd.R_lt (by (with_reducible repeat (first | apply Kd.RqA | apply Kd.RqN | apply Kd.RqD)); exact HO_1267002.out))) (bQZ (by repeat (first | (with_reducible first | exact HB.out | apply bQA | apply bQN | apply bQ1 | refine bQS ?_ GE1245.out | refine bQS ?_ GE1266.out) | exact HB.out)))); have n4_ := Aq.mk (kQB (g := gb1245) (o := .cells #[.int .i64 a0_0, .int .i64 a0_1, .slice A0_2 l0_2.length c0_2, .int .i64 a0_3] 45 (0, 0)) (by (with_reducible repeat (first | refine kQN ?_ _ | refine kQD ?_ | refine kQA ?_ _)); exact BK1245.out) hb); have n5_ := Aq.mk (kQB (g := gb1266) (o := .cells #[.int .i64 t1260, .int .i64 t1261, .slice Ao31 t1287.length co31, .int .i64 t1265] 49 (0, 0)) (by (with_reducible repeat (first | refine kQN ?_ _ | refine kQD ?_ | refine kQA ?_ _)); exact BK1266.out) hb); have n6_ := Aq.mk (bQT (by repeat (first | (with_reducible first | exact HB.out | apply bQA | apply bQN | apply bQ1 | refine bQS ?_ GE1245.out | refine bQS ?_ GE1266.out) | exact HB.out)) hb); clear HO_6; clear HO_10; clear HO_1267002; clear BK1245; clear BK1266; clear HB; have HO_6 := n0_; have HO_10 := n1_; have HO_1267002 := n2_; have HO1298 := n3_; have BK1245 := n4_; have BK1266 := n5_; have HB := n6_; clear n0_ n1_ n2_ n3_ n4_ n5_ n6_; (try clear hb); (try clear hb2); (try clear hk); (try clear hi); (try clear ho0)) | ((with_reducible refine gQc (f := 19) rfl ?_); refine goesL_ (some 96) rfl rfl Try.func19 (by kernel_rfl) rfl #[.slice A1 l1.length c1] rfl (by (try simp only [List.map_toArray, List.map_cons, List.map_nil]); first | done | rfl | (simp only [List.length_drop, List.length_take]; rfl)) ?_; (with_reducible refine (laws_toInt64S.calls kj50 _ _ l1 t1300 _ ?side1 ?side2 A77.out).mono ?_); (case side1 => repeat (first | exact (Kd.C_below HR1.out HB.out) | (with_reducible refine Kd.CqA ?_ _) | (with_reducible refine Kd.CqN ?_ _) | (with_reducible refine Kd.CqD ?_))); (case side2 => exact HC1.out); rintro e w85 ⟨v1301, rfl, ho0, hb⟩; refine ⟨_, rfl, ?_⟩; have n0_ := Aq.mk (Kd.R_elder' (by (with_reducible repeat (first | apply Kd.RqA | apply Kd.RqN | apply Kd.RqD)); exact HO_6.out) (Kd.R_base ho0) hb); have n1_ := Aq.mk (Kd.R_elder' (by (with_reducible repeat (first | apply Kd.RqA | apply Kd.RqN | apply Kd.RqD)); exact HO_10.out) (Kd.R_base ho0) hb); have n2_ := Aq.mk (Kd.R_elder' (by (with_reducible repeat (first | apply Kd.RqA | apply Kd.RqN | apply Kd.RqD)); exact HO_1267002.out) (Kd.R_base ho0) hb); have n3_ := Aq.mk (Kd.R_elder' (by (with_reducible repeat (first | apply Kd.RqA | apply Kd.RqN | apply Kd.RqD)); exact HO1298.out) (Kd.R_base ho0) hb); have n4_ := Aq.mk (Kd.R_lower (Kd.R_new' (Kd.R_new' (Kd.R_new' (Kd.R_new' ho0 (Kd.R_lt (by (with_reducible repeat (first | apply Kd.RqA | apply Kd.RqN | apply Kd.RqD)); exact HO_6.out))) (Kd.R_lt (by (with_reducible repeat (first | apply Kd.RqA | apply Kd.RqN | apply Kd.RqD)); exact HO_10.out))) (Kd.R_lt (by (with_reducible repeat (first | apply Kd.RqA | apply Kd.RqN | apply Kd.RqD)); exact HO_1267002.out))) (Kd.R_lt (by (with_reducible repeat (first | apply Kd.RqA | apply Kd.RqN | apply Kd.RqD)); exact HO1298.out))) (bQZ (by repeat (first | (with_reducible first | exact HB.out | apply bQA | apply bQN | apply bQ1 | refine bQS ?_ GE1245.out | refine bQS ?_ GE1266.out) | exact HB.out)))); have n5_ := Aq.mk (kQB (g := gb1245) (o := .cells #[.int .i64 a0_0, .int .i64 a0_1, .slice A0_2 l0_2.length c0_2, .int .i64 a0_3] 45 (0, 0)) (by (with_reducible repeat (first | refine kQN ?_ _ | refine kQD ?_ | refine kQA ?_ _)); exact BK1245.out) hb); have n6_ := Aq.mk (kQB (g := gb1266) (o := .cells #[.int .i64 t1260, .int .i64 t1261, .slice Ao31 t1287.length co31, .int .i64 t1265] 49 (0, 0)) (by (with_reducible repeat (first | refine kQN ?_ _ | refine kQD ?_ | refine kQA ?_ _)); exact BK1266.out) hb); have n7_ := Aq.mk (bQT (by repeat (first | (with_reducible first | exact HB.out | apply bQA | apply bQN | apply bQ1 | refine bQS ?_ GE1245.out | refine bQS ?_ GE1266.out) | exact HB.out)) hb); clear HO_6; clear HO_10; clear HO_1267002; clear HO1298; clear BK1245; clear BK1266; clear HB; have HO_6 := n0_; have HO_10 := n1_; have HO_1267002 := n2_; have HO1298 := n3_; have HO1302 := n4_; have BK1245 := n5_; have BK1266 := n6_; have HB := n7_; clear n0_ n1_ n2_ n3_ n4_ n5_ n6_ n7_; (try clear hb); (try clear hb2); (try clear hk); (try clear hi); (try clear ho0); obtain ⟨Ao86, co86, eo86⟩ := Kd.R_slice HO1298.out; subst eo86; obtain ⟨Ao87, co87, eo87⟩ := Kd.R_slice HO1302.out; subst eo87) | ((with_reducible refine gQc (f := 64) rfl ?_); refine goesL_ (some 97) rfl rfl Try.func64 (by kernel_rfl) rfl #[.agg #[.int .i64 t1294, .int .i64 t1295, .slice Ao86 t1296.length co86, .int .i64 t1299], .slice Ao87 t1300.length co87] rfl (by (try simp only [List.map_toArray, List.map_cons, List.map_nil]); first | done | rfl | (simp only [List.length_drop, List.length_take]; rfl)) ?_; (with_reducible refine (impl_EncodeGabidulin.calls kj50 t1294 t1295 _ _ t1296 t1299 _ _ t1300 t1303 t1306 _ ?side1 ?side2 ?side3 ?side4 A78.out).mono ?_); (case side1 => repeat (first | exact (Kd.R_reads' HO1298.out).2.2 | (with_reducible refine Kd.CqA ?_ _) | (with_reducible refine Kd.CqN ?_ _) | (with_reducible refine Kd.CqD ?_))); (case side2 => exact (Kd.R_reads' HO1298.out).2.1); (case side3 => repeat (first | exact (Kd.R_reads' HO1302.out).2.2 | (with_reducible refine Kd.CqA ?_ _) | (with_reducible refine Kd.CqN ?_ _) | (with_reducible refine Kd.CqD ?_))); (case side4 => exact (Kd.R_reads' HO1302.out).2.1); rintro e w88 ⟨v1304, rfl, ho0, hb⟩; refine ⟨_, rfl, ?_⟩; have n0_ := Aq.mk (Kd.R_elder' (by (with_reducible repeat (first | apply Kd.RqA | apply Kd.RqN | apply Kd.RqD)); exact HO_6.out) (Kd.R_base ho0) hb); have n1_ := Aq.mk (Kd.R_elder' (by (with_reducible repeat (first | apply Kd.RqA | apply Kd.RqN | apply Kd.RqD)); exact HO_10.out) (Kd.R_base ho0) hb); have n2_ := Aq.mk (Kd.R_elder' (by (with_reducible repeat (first | apply Kd.RqA | apply Kd.RqN | apply Kd.RqD)); exact HO_1267002.out) (Kd.R_base ho0) hb); have n3_ := Aq.mk (Kd.R_elder' (by (with_reducible repeat (first | apply Kd.RqA | apply Kd.RqN | apply Kd.RqD)); exact HO1298.out) (Kd.R_base ho0) hb); have n4_ := Aq.mk (Kd.R_elder' (by (with_reducible repeat (first | apply Kd.RqA | apply Kd.RqN | apply Kd.RqD)); exact HO1302.out) (Kd.R_base ho0) hb); have n5_ := Aq.mk (Kd.R_lower (Kd.R_new' (Kd.R_new' (Kd.R_new' (Kd.R_new' (Kd.R_new' ho0 (Kd.R_lt (by (with_reducible repeat (first | apply Kd.RqA | apply Kd.RqN | apply Kd.RqD)); exact HO_6.out))) (Kd.R_lt (by (with_reducible repeat (first | apply Kd.RqA | apply Kd.RqN | apply Kd.RqD)); exact HO_10.out))) (Kd.R_lt (by (with_reducible repeat (first | apply Kd.RqA | apply Kd.RqN | apply Kd.RqD)); exact HO_1267002.out))) (Kd.R_lt (by (with_reducible repeat (first | apply Kd.RqA | apply Kd.RqN | apply Kd.RqD)); exact HO1298.out))) (Kd.R_lt (by (with_reducible repeat (first | apply Kd.RqA | apply Kd.RqN | apply Kd.RqD)); exact HO1302.out))) (bQZ (by repeat (first | (with_reducible first | exact HB.out | apply bQA | apply bQN | apply bQ1 | refine bQS ?_ GE1245.out | refine bQS ?_ GE1266.out) | exact HB.out)))); have n6_ := Aq.mk (kQB (g := gb1245) (o := .cells #[.int .i64 a0_0, .int .i64 a0_1, .slice A0_2 l0_2.length c0_2, .int .i64 a0_3] 45 (0, 0)) (by (with_reducible repeat (first | refine kQN ?_ _ | refine kQD ?_ | refine kQA ?_ _)); exact BK1245.out) hb); have n7_ := Aq.mk (kQB (g := gb1266) (o := .cells #[.int .i64 t1260, .int .i64 t1261, .slice Ao31 t1287.length co31, .int .i64 t1265] 49 (0, 0)) (by (with_reducible repeat (first | refine kQN ?_ _ | refine kQD ?_ | refine kQA ?_ _)); exact BK1266.out) hb); have n8_ := Aq.mk (bQT (by repeat (first | (with_reducible first | exact HB.out | apply bQA | apply bQN | apply bQ1 | refine bQS ?_ GE1245.out | refine bQS ?_ GE1266.out) | exact HB.out)) hb); clear HO_6; clear HO_10; clear HO_1267002; clear HO1298; clear HO1302; clear BK1245; clear BK1266; clear HB; have HO_6 := n0_; have HO_10 := n1_; have HO_1267002 := n2_; have HO1298 := n3_; have HO1302 := n4_; have HO1305 := n5_; have BK1245 := n6_; have BK1266 := n7_; have HB := n8_; clear n0_ n1_ n2_ n3_ n4_ n5_ n6_ n7_ n8_; (try clear hb); (try clear hb2); (try clear hk); (try clear hi); (try clear ho0)))
             (try simp only [Act.put, qSa, qSb, qSc])
             go_cut [108] (fun v108 wc => ∃ (kq : Nat) (x108_78 : Bool), v108 = .bool x108_78 ∧ Aq (laws_FnExactEncodeGabidulin.j2 kq t1292 t1291 x108_78 = some r) ∧ Aq (kq ≤ kj50) ∧ Aq (Kd.R (Kd.int .i64) 2 wc w.heap.size (fun k_ => some k_ ≠ ((.slice Ao31 t1287.length co31) : Value).ownBlock) (.slice Ao80 t1270.length co80) t1292) ∧ Aq (Kd.R (Kd.int .i64) 2 wc w.heap.size (fun k_ => some k_ ≠ ((.slice Ao80 t1270.length co80) : Value).ownBlock) (.slice Ao31 t1287.length co31) t1287) ∧ Aq (wc.heap[gb1245]? = some (.cells #[.int .i64 a0_0, .int .i64 a0_1, (.slice A0_2 l0_2.length c0_2), .int .i64 a0_3] 45 (0, 0))) ∧ Aq (wc.heap[gb1266]? = some (.cells #[.int .i64 t1260, .int .i64 t1261, (.slice Ao31 t1287.length co31), .int .i64 t1265] 49 (0, 0))) ∧ Aq (Below w.heap.size w wc))
             case first =>
              have H := HC79.out
              clear HC79
              replace H := Option.bind_eq_some_iff.mp H
              obtain ⟨t1307, A890, H⟩ := H
              replace H : (if t1307 = true then (laws_FnExactEncodeGabidulin.j2 kj50 t1292 t1291 (t1306 != t1259)) else (laws_FnExactEncodeGabidulin.j2 kj50 t1292 t1291 true)) = some r := H
              have A89 := Aq.mk A890
              clear A890
              by_cases c90 : t1307 = true
              ·subst c90
               have H1 : (laws_FnExactEncodeGabidulin.j2 kj50 t1292 t1291 (t1306 != t1259)) = some r := by rw [if_pos rfl] at H; exact H
               clear H
               have H := H1
               clear H1
               have H' := Aq.mk H
               clear H
               obtain ⟨Ao91, co91, eo91⟩ := Kd.R_slice HO1305.out
               subst eo91
               obtain ⟨Ao92, co92, eo92⟩ := Kd.R_slice HO_6.out
               subst eo92
               go_wp2_with (first | ((with_reducible refine gQc (f := 22) rfl ?_); refine goesL_ (some 102) rfl rfl Try.func22 (by kernel_rfl) rfl #[.slice Ao91 t1303.length co91, .slice Ao92 t1256.length co92] rfl (by (try simp only [List.map_toArray, List.map_cons, List.map_nil]); first | done | rfl | (simp only [List.length_drop, List.length_take]; rfl)) ?_; (with_reducible refine (laws_eqInt64S.calls kj50 _ _ t1303 _ _ t1256 true _ ?side1 ?side2 ?side3 ?side4 A89.out).mono ?_); (case side1 => repeat (first | exact (Kd.R_reads' HO1305.out).2.2 | (with_reducible refine Kd.CqA ?_ _) | (with_reducible refine Kd.CqN ?_ _) | (with_reducible refine Kd.CqD ?_))); (case side2 => exact (Kd.R_reads' HO1305.out).2.1); (case side3 => repeat (first | exact (Kd.R_reads' HO_6.out).2.2 | (with_reducible refine Kd.CqA ?_ _) | (with_reducible refine Kd.CqN ?_ _) | (with_reducible refine Kd.CqD ?_))); (case side4 => exact (Kd.R_reads' HO_6.out).2.1); rintro e w' ⟨rfl, ⟨nd, rfl⟩⟩; refine ⟨_, rfl, ?_⟩))
               go_meet
               case rel => exact ⟨_, ((t1306 != t1259)), (by first | rfl | (simp; done) | (simp [*]; done)), H', ⟨by have := HJ15.out; have := HJ50.out; first | omega | exact Nat.le_refl _⟩, ⟨by (try simp only [hl1267002_50]); (with_reducible repeat (first | apply Kd.RqA | apply Kd.RqN | apply Kd.RqD)); exact Kd.R_mono HO_10.out (fun _ hk => hk.1.1.1.2)⟩, ⟨by (try simp only [hl1267002_50]); (with_reducible repeat (first | apply Kd.RqA | apply Kd.RqN | apply Kd.RqD)); exact Kd.R_mono HO_1267002.out (fun _ hk => hk.1.1.1.2)⟩, ⟨by (try simp only [hl1267002_50]); (with_reducible repeat (first | refine kQN ?_ _ | refine kQD ?_ | refine kQA ?_ _)); exact BK1245.out⟩, ⟨by (try simp only [hl1267002_50]); (with_reducible repeat (first | refine kQN ?_ _ | refine kQD ?_ | refine kQA ?_ _)); exact BK1266.out⟩, ⟨by repeat (first | (with_reducible first | exact HB.out | apply bQA | apply bQN | apply bQ1 | refine bQS ?_ GE1245.out | refine bQS ?_ GE1266.out) | exact HB.out)⟩⟩
              ·replace c90 := Bool.eq_false_iff.mpr c90
               subst c90
               have H1 : (laws_FnExactEncodeGabidulin.j2 kj50 t1292 t1291 true) = some r := by rw [if_neg (show ¬ (false = true) by decide)] at H; exact H
               clear H
               have H := H1
               clear H1
               have H' := Aq.mk H
               clear H
               obtain ⟨Ao93, co93, eo93⟩ := Kd.R_slice HO1305.out
               subst eo93
               obtain ⟨Ao94, co94, eo94⟩ := Kd.R_slice HO_6.out
               subst eo94
               go_wp2_with (first | ((with_reducible refine gQc (f := 22) rfl ?_); refine goesL_ (some 102) rfl rfl Try.func22 (by kernel_rfl) rfl #[.slice Ao93 t1303.length co93, .slice Ao94 t1256.length co94] rfl (by (try simp only [List.map_toArray, List.map_cons, List.map_nil]); first | done | rfl | (simp only [List.length_drop, List.length_take]; rfl)) ?_; (with_reducible refine (laws_eqInt64S.calls kj50 _ _ t1303 _ _ t1256 false _ ?side1 ?side2 ?side3 ?side4 A89.out).mono ?_); (case side1 => repeat (first | exact (Kd.R_reads' HO1305.out).2.2 | (with_reducible refine Kd.CqA ?_ _) | (with_reducible refine Kd.CqN ?_ _) | (with_reducible refine Kd.CqD ?_))); (case side2 => exact (Kd.R_reads' HO1305.out).2.1); (case side3 => repeat (first | exact (Kd.R_reads' HO_6.out).2.2 | (with_reducible refine Kd.CqA ?_ _) | (with_reducible refine Kd.CqN ?_ _) | (with_reducible refine Kd.CqD ?_))); (case side4 => exact (Kd.R_reads' HO_6.out).2.1); rintro e w' ⟨rfl, ⟨nd, rfl⟩⟩; refine ⟨_, rfl, ?_⟩))
               go_meet
               case rel => exact ⟨_, (true), (by first | rfl | (simp; done) | (simp [*]; done)), H', ⟨by have := HJ15.out; have := HJ50.out; first | omega | exact Nat.le_refl _⟩, ⟨by (try simp only [hl1267002_50]); (with_reducible repeat (first | apply Kd.RqA | apply Kd.RqN | apply Kd.RqD)); exact Kd.R_mono HO_10.out (fun _ hk => hk.1.1.1.2)⟩, ⟨by (try simp only [hl1267002_50]); (with_reducible repeat (first | apply Kd.RqA | apply Kd.RqN | apply Kd.RqD)); exact Kd.R_mono HO_1267002.out (fun _ hk => hk.1.1.1.2)⟩, ⟨by (try simp only [hl1267002_50]); (with_reducible repeat (first | refine kQN ?_ _ | refine kQD ?_ | refine kQA ?_ _)); exact BK1245.out⟩, ⟨by (try simp only [hl1267002_50]); (with_reducible repeat (first | refine kQN ?_ _ | refine kQD ?_ | refine kQA ?_ _)); exact BK1266.out⟩, ⟨by repeat (first | (with_reducible first | exact HB.out | apply bQA | apply bQN | apply bQ1 | refine bQS ?_ GE1245.out | refine bQS ?_ GE1266.out) | exact HB.out)⟩⟩
             case rest =>
              clear HC79
              try clear c1
              try clear c2
              try clear p2
              try clear c3
              try clear c3b0
              try clear c3b1
              try clear c4
              try clear c5
              try clear c6
              try clear c6b0
              try clear c7
              try clear c8
              try clear c9
              try clear c16
              try clear c19
              try clear c22
              try clear c23
              try clear c29
              try clear c32
              try clear c35
              try clear c37
              try clear c39
              try clear c42
              try clear c45
              try clear c48
              try clear c58
              try clear c61
              try clear c62
              try clear c62b0
              try clear c63
              try clear c64
              try clear c69
              try clear c72
              try clear c72b0
              try clear c75
              try clear c75b0
              try clear c75b1
              try clear c82
              try clear c90
              try clear hcz18_0
              try clear hcz18_1
              try clear hcz18_2
              try clear hcz18_3
              try clear hcz20_0
              try clear hcz20_1
              try clear hcz20_2
              try clear hcz20_3
              try clear hcz26_0
              try clear hcz26_1
              try clear hcz26_2
              try clear hcz26_3
              try clear hcz30_0
              try clear hcz30_1
              try clear hcz30_2
              try clear hcz30_3
              try clear hcz33_0
              try clear hcz33_1
              try clear hcz33_2
              try clear hcz33_3
              try clear hcz59_0
              try clear hcz59_1
              try clear hcz59_2
              try clear hcz59_3
              try clear hcz83_0
              try clear hcz83_1
              try clear hcz83_2
              try clear hcz83_3
              try clear hcz8_0
              try clear hcz8_1
              try clear hcz8_2
              try clear hcz8_3
              try clear hfz18_0
              try clear hfz18_1
              try clear hfz18_2
              try clear hfz18_3
              try clear hfz20_0
              try clear hfz20_1
              try clear hfz20_2
              try clear hfz20_3
              try clear hfz26_0
              try clear hfz26_1
              try clear hfz26_2
              try clear hfz26_3
              try clear hfz30_0
              try clear hfz30_1
              try clear hfz30_2
              try clear hfz30_3
              try clear hfz33_0
              try clear hfz33_1
              try clear hfz33_2
              try clear hfz33_3
              try clear hfz59_0
              try clear hfz59_1
              try clear hfz59_2
              try clear hfz59_3
              try clear hfz83_0
              try clear hfz83_1
              try clear hfz83_2
              try clear hfz83_3
              try clear hfz8_0
              try clear hfz8_1
              try clear hfz8_2
              try clear hfz8_3
              try clear p2
              obtain ⟨kq, x108_78, rfl, HA, HJ78, HO_10, HO_1267002, BK1245, BK1266, HB⟩ := hcut
              have hl10_78 := (Kd.R_reads' HO_10.out).1
              rw [hl10_78] at HO_10
              (try simp only [hl10_78])
              (try simp only [hl10_78] at BK1245)
              (try simp only [hl10_78] at BK1266)
              (try simp only [hl10_78] at HO_1267002)
              cases kq with
              | zero => exact absurd HA.out (by simp [laws_FnExactEncodeGabidulin.j2])
              | succ kj78 =>
               have H := HA.out
               clear HA
               simp only [laws_FnExactEncodeGabidulin.j2] at H
               by_cases c95 : x108_78 = true
               ·subst c95
                have H1 : (some false) = some r := by rw [if_pos rfl] at H; exact H
                clear H
                have H := H1
                clear H1
                obtain rfl := Option.some.inj H
                go_wp2
                go_ret
                exact ⟨by first | rfl | (simp [errW_none, errW_some] <;> rfl) | (simp [*, errW_none, errW_some] <;> rfl), by repeat (first | (with_reducible first | exact HB.out | apply bQA | apply bQN | apply bQ1 | refine bQS ?_ GE1245.out | refine bQS ?_ GE1266.out) | exact HB.out)⟩
               ·replace c95 := Bool.eq_false_iff.mpr c95
                subst c95
                have H1 : ((laws_heldInt64S.f kj78 t1292 1).bind fun t1308 => (if t1308 < 0 then (some false) else (if t1308 = t1291 then (some true) else (some false)))) = some r := by rw [if_neg (show ¬ (false = true) by decide)] at H; exact H
                clear H
                have H := H1
                clear H1
                replace H := Option.bind_eq_some_iff.mp H
                obtain ⟨t1308, A960, H⟩ := H
                replace H : (if t1308 < 0 then (some false) else (if t1308 = t1291 then (some true) else (some false))) = some r := H
                have A96 := Aq.mk A960
                clear A960
                by_cases c97 : t1308 < 0
                ·rw [if_pos c97] at H
                 have c97b0 : decide (t1308 < 0) = true := decide_eq_true c97
                 clear c97
                 (try (have c97b0z := c97b0; simp only [hl1267002_50, hl10_78] at c97b0z))
                 obtain rfl := Option.some.inj H
                 go_wp2_with (first | ((with_reducible refine gQc (f := 32) rfl ?_); refine goesL_ (some 111) rfl rfl Try.func32 (by kernel_rfl) rfl #[.slice Ao80 t1292.length co80, .int .i64 1] rfl (by (try simp only [List.map_toArray, List.map_cons, List.map_nil]); first | done | rfl | (simp only [List.length_drop, List.length_take]; rfl)) ?_; (with_reducible refine (laws_heldInt64S.calls kj78 _ _ t1292 1 t1308 _ ?side1 ?side2 A96.out).mono ?_); (case side1 => repeat (first | exact (Kd.R_reads' HO_10.out).2.2 | (with_reducible refine Kd.CqA ?_ _) | (with_reducible refine Kd.CqN ?_ _) | (with_reducible refine Kd.CqD ?_))); (case side2 => exact (Kd.R_reads' HO_10.out).2.1); rintro e w' ⟨rfl, ⟨nd, rfl⟩⟩; refine ⟨_, rfl, ?_⟩))
                 go_ret
                 exact ⟨by first | rfl | (simp [errW_none, errW_some] <;> rfl) | (simp [*, errW_none, errW_some] <;> rfl), by repeat (first | (with_reducible first | exact HB.out | apply bQA | apply bQN | apply bQ1 | refine bQS ?_ GE1245.out | refine bQS ?_ GE1266.out) | exact HB.out)⟩
                ·rw [if_neg c97] at H
                 have c97b0 : decide (t1308 < 0) = false := decide_eq_false c97
                 clear c97
                 (try (have c97b0z := c97b0; simp only [hl1267002_50, hl10_78] at c97b0z))
                 by_cases c98 : t1308 = t1291
                 ·rw [if_pos c98] at H
                  have c98b0 : (t1308 == t1291) = true := beq_iff_eq.mpr c98
                  have c98b1 : (t1308 != t1291) = false := bne_eq_false_iff_eq.mpr c98
                  clear c98
                  (try (have c98b0z := c98b0; simp only [hl1267002_50, hl10_78] at c98b0z))
                  (try (have c98b1z := c98b1; simp only [hl1267002_50, hl10_78] at c98b1z))
                  obtain rfl := Option.some.inj H
                  go_wp2_with (first | ((with_reducible refine gQc (f := 32) rfl ?_); refine goesL_ (some 111) rfl rfl Try.func32 (by kernel_rfl) rfl #[.slice Ao80 t1292.length co80, .int .i64 1] rfl (by (try simp only [List.map_toArray, List.map_cons, List.map_nil]); first | done | rfl | (simp only [List.length_drop, List.length_take]; rfl)) ?_; (with_reducible refine (laws_heldInt64S.calls kj78 _ _ t1292 1 t1308 _ ?side1 ?side2 A96.out).mono ?_); (case side1 => repeat (first | exact (Kd.R_reads' HO_10.out).2.2 | (with_reducible refine Kd.CqA ?_ _) | (with_reducible refine Kd.CqN ?_ _) | (with_reducible refine Kd.CqD ?_))); (case side2 => exact (Kd.R_reads' HO_10.out).2.1); rintro e w' ⟨rfl, ⟨nd, rfl⟩⟩; refine ⟨_, rfl, ?_⟩))
                  go_ret
                  exact ⟨by first | rfl | (simp [errW_none, errW_some] <;> rfl) | (simp [*, errW_none, errW_some] <;> rfl), by repeat (first | (with_reducible first | exact HB.out | apply bQA | apply bQN | apply bQ1 | refine bQS ?_ GE1245.out | refine bQS ?_ GE1266.out) | exact HB.out)⟩
                 ·rw [if_neg c98] at H
                  have c98b0 : (t1308 == t1291) = false := beq_eq_false_iff_ne.mpr c98
                  have c98b1 : (t1308 != t1291) = true := bne_iff_ne.mpr c98
                  (try (have c98b0z := c98b0; simp only [hl1267002_50, hl10_78] at c98b0z))
                  (try (have c98b1z := c98b1; simp only [hl1267002_50, hl10_78] at c98b1z))
                  obtain rfl := Option.some.inj H
                  go_wp2_with (first | ((with_reducible refine gQc (f := 32) rfl ?_); refine goesL_ (some 111) rfl rfl Try.func32 (by kernel_rfl) rfl #[.slice Ao80 t1292.length co80, .int .i64 1] rfl (by (try simp only [List.map_toArray, List.map_cons, List.map_nil]); first | done | rfl | (simp only [List.length_drop, List.length_take]; rfl)) ?_; (with_reducible refine (laws_heldInt64S.calls kj78 _ _ t1292 1 t1308 _ ?side1 ?side2 A96.out).mono ?_); (case side1 => repeat (first | exact (Kd.R_reads' HO_10.out).2.2 | (with_reducible refine Kd.CqA ?_ _) | (with_reducible refine Kd.CqN ?_ _) | (with_reducible refine Kd.CqD ?_))); (case side2 => exact (Kd.R_reads' HO_10.out).2.1); rintro e w' ⟨rfl, ⟨nd, rfl⟩⟩; refine ⟨_, rfl, ?_⟩))
                  go_ret
                  exact ⟨by first | rfl | (simp [errW_none, errW_some] <;> rfl) | (simp [*, errW_none, errW_some] <;> rfl), by repeat (first | (with_reducible first | exact HB.out | apply bQA | apply bQN | apply bQ1 | refine bQS ?_ GE1245.out | refine bQS ?_ GE1266.out) | exact HB.out)⟩
            ·rw [if_neg c75] at H
             have c75b0 : (t1293 == t1291) = false := beq_eq_false_iff_ne.mpr c75
             have c75b1 : (t1293 != t1291) = true := bne_iff_ne.mpr c75
             (try (have c75b0z := c75b0; simp only [hl1267002_50] at c75b0z))
             (try (have c75b1z := c75b1; simp only [hl1267002_50] at c75b1z))
             obtain rfl := Option.some.inj H
             obtain ⟨Ao99, co99, eo99⟩ := Kd.R_slice HO_10.out
             subst eo99
             go_wp2_with (first | ((with_reducible refine gQc (f := 23) rfl ?_); refine goesL_ (some 83) rfl rfl Try.func23 (by kernel_rfl) rfl #[.slice Ao99 t1270.length co99, .int .i64 1] rfl (by (try simp only [List.map_toArray, List.map_cons, List.map_nil]); first | done | rfl | (simp only [List.length_drop, List.length_take]; rfl)) ?_; (with_reducible refine (laws_markInt64S.calls kj50 (fun k_ => some k_ = (.slice Ao99 t1270.length co99 : Value).ownBlock) (.slice Ao99 t1270.length co99) t1270 1 t1291 t1292 w _ ?side1 ?side2 A70.out).mono ?_); (case side1 => repeat (first | (with_reducible first | exact HB.out | apply bQA | apply bQN | apply bQ1 | refine bQS ?_ GE1245.out | refine bQS ?_ GE1266.out) | exact HB.out)); (case side2 => exact Kd.R_tight rfl HO_10.out); rintro e w100 ⟨rfl, hy0, hb, hkp⟩; refine ⟨_, rfl, ?_⟩; have n0_ := Aq.mk (Kd.R_mono (ok' := fun k_ => some k_ ≠ (.slice Ao99 t1270.length co99 : Value).ownBlock ∧ some k_ ≠ (.slice Ao31 t1287.length co31 : Value).ownBlock) (Kd.R_keptB (HO_6.out) hkp (fun k_ hk_ hs_ => (hk_.1) hs_)) (fun k_ hk_ => ⟨hk_.1.1, hk_.1.2⟩)); have n1_ := Aq.mk (Kd.R_reok rfl hy0 (fun k_ e_ => HO_10.out.1 k_ e_)); have n2_ := Aq.mk (Kd.R_mono (ok' := fun k_ => some k_ ≠ (v1257 : Value).ownBlock ∧ some k_ ≠ (.slice Ao99 t1270.length co99 : Value).ownBlock) (Kd.R_keptB (HO_1267002.out) hkp (fun k_ hk_ hs_ => (hk_.2) hs_)) (fun k_ hk_ => ⟨hk_.1.1, hk_.1.2⟩)); have n3_ := Aq.mk (blk_kept (by (with_reducible repeat (first | refine kQN ?_ _ | refine kQD ?_ | refine kQA ?_ _)); exact BK1245.out) hkp (fun hs_ => (fun e_ => (Kd.R_ne HO_10.out BK1245.out (by decide)) e_) hs_)); have n4_ := Aq.mk (blk_kept (by (with_reducible repeat (first | refine kQN ?_ _ | refine kQD ?_ | refine kQA ?_ _)); exact BK1266.out) hkp (fun hs_ => (fun e_ => (Kd.R_ne HO_10.out BK1266.out (by decide)) e_) hs_)); have n5_ := Aq.mk (hb); clear HO_6; clear HO_10; clear HO_1267002; clear BK1245; clear BK1266; clear HB; have HO_6 := n0_; have HO_10 := n1_; have HO_1267002 := n2_; have BK1245 := n3_; have BK1266 := n4_; have HB := n5_; clear n0_ n1_ n2_ n3_ n4_ n5_; (try clear hb); (try clear hkp); (try clear hy0)) | ((with_reducible refine gQc (f := 32) rfl ?_); refine goesL_ (some 86) rfl rfl Try.func32 (by kernel_rfl) rfl #[.slice Ao99 t1292.length co99, .int .i64 1] rfl (by (try simp only [List.map_toArray, List.map_cons, List.map_nil]); first | done | (rw [show t1292.length = t1270.length from (Kd.R_reads' HO_10.out).1.symm] <;> rfl) | rfl | (simp only [List.length_drop, List.length_take]; rfl)) ?_; (with_reducible refine (laws_heldInt64S.calls kj50 _ _ t1292 1 t1293 _ ?side1 ?side2 A71.out).mono ?_); (case side1 => repeat (first | exact (Kd.R_reads' HO_10.out).2.2 | (with_reducible refine Kd.CqA ?_ _) | (with_reducible refine Kd.CqN ?_ _) | (with_reducible refine Kd.CqD ?_))); (case side2 => rw [show t1292.length = t1270.length from (Kd.R_reads' HO_10.out).1.symm]; exact (Kd.R_reads' HO_10.out).2.1); rintro e w' ⟨rfl, ⟨nd, rfl⟩⟩; refine ⟨_, rfl, ?_⟩))
             go_ret
             exact ⟨by first | rfl | (simp [errW_none, errW_some] <;> rfl) | (simp [*, errW_none, errW_some] <;> rfl), by repeat (first | (with_reducible first | exact HB.out | apply bQA | apply bQN | apply bQ1 | refine bQS ?_ GE1245.out | refine bQS ?_ GE1266.out) | exact HB.out)⟩
       ·replace c48 := Bool.eq_false_iff.mpr c48
        subst c48
        have H1 : (some false) = some r := by rw [if_neg (show ¬ (false = true) by decide)] at H; exact H
        clear H
        have H := H1
        clear H1
        obtain rfl := Option.some.inj H
        try go_wp2
        have n0_ := Aq.mk (Kd.RqD HO_6.out)
        have n1_ := Aq.mk (Kd.RqD HO_9.out)
        have n2_ := Aq.mk (Kd.RqD HO_10.out)
        have n3_ := Aq.mk (Kd.RqD HO_1267002.out)
        have n4_ := Aq.mk (kQD BK1245.out)
        have n5_ := Aq.mk (kQD BK1266.out)
        have n6_ := Aq.mk (bQ1 HB.out)
        clear HO_6
        clear HO_9
        clear HO_10
        clear HO_1267002
        clear BK1245
        clear BK1266
        clear HB
        have HO_6 := n0_
        have HO_9 := n1_
        have HO_10 := n2_
        have HO_1267002 := n3_
        have BK1245 := n4_
        have BK1266 := n5_
        have HB := n6_
        clear n0_ n1_ n2_ n3_ n4_ n5_ n6_
        refine start_ (n := 5) (S := fun w' => w'.cell? ⟨gb1266, 0, none⟩ = some (.int .i64 t1260) ∧ w'.cell? ⟨gb1266, 1, none⟩ = some (.int .i64 t1261) ∧ w'.cell? ⟨gb1266, 2, none⟩ = some (.slice Ao31 t1262.length co31) ∧ w'.cell? ⟨gb1266, 3, none⟩ = some (.int .i64 t1265) ∧ w'.cell? ⟨gb1245, 0, none⟩ = some (.int .i64 a0_0) ∧ w'.cell? ⟨gb1245, 1, none⟩ = some (.int .i64 a0_1) ∧ w'.cell? ⟨gb1245, 2, none⟩ = some (.slice A0_2 l0_2.length c0_2) ∧ w'.cell? ⟨gb1245, 3, none⟩ = some (.int .i64 a0_3)) (ds := []) #[false, false, false, false, false] (by kernel_rfl) rfl rfl ⟨(kQC BK1266.out 0).trans rfl, (kQC BK1266.out 1).trans rfl, (kQC BK1266.out 2).trans rfl, (kQC BK1266.out 3).trans rfl, (kQC BK1245.out 0).trans rfl, (kQC BK1245.out 1).trans rfl, (kQC BK1245.out 2).trans rfl, (kQC BK1245.out 3).trans rfl⟩ (fun hHeld => ?_)
        generalize wc.drew = w101 at HO_6 HO_9 HO_10 HO_1267002 BK1245 BK1266 HB hHeld ⊢
        refine take_ (i := 0) (N := some 52) (v := ?_) (a' := ?_) #[true, false, false, false, false] rfl rfl (by kernel_rfl) (fun _ _ _ h => h) (Or.inl ⟨by rfl, ?_⟩) hHeld ?_ ?_
        rotate_left
        ·rintro w' ⟨s0, s1, s2, s3, s4, s5, s6, s7⟩
         go_simp
         with_reducible rfl
        rotate_left
        ·simp only [Act.put, qSa, qSb, qSc, i64_w, i32_w]
         rfl
        refine take_ (i := 1) (N := some 53) (v := ?_) (a' := ?_) #[true, true, false, false, false] rfl rfl (by kernel_rfl) (fun _ _ _ h => h) (Or.inl ⟨by rfl, ?_⟩) hHeld ?_ ?_
        rotate_left
        ·rintro w' ⟨s0, s1, s2, s3, s4, s5, s6, s7⟩
         go_simp
         with_reducible rfl
        rotate_left
        ·simp only [Act.put, qSa, qSb, qSc, i64_w, i32_w]
         rfl
        refine one_ (i := 2) (N := some 54) #[true, true, true, false, false] rfl rfl (by kernel_rfl) (by decide) (fun K hK => ?_)
        refine goes_ Try.func37 (by kernel_rfl) rfl #[.agg #[.int .i64 a0_0, .int .i64 a0_1, .slice A0_2 l0_2.length c0_2, .int .i64 a0_3]] (by rfl) rfl rfl (by (try simp only [List.map_toArray, List.map_cons, List.map_nil]); first | done | rfl | (simp only [List.length_drop, List.length_take]; rfl)) ?_
        with_reducible refine (laws_toGabidulin.calls kj15 a0_0 a0_1 _ _ l0_2 a0_3 t1275 t1276 t1277 t1280 _ ?side1 ?side2 A43.out).mono ?_
        (case side1 => repeat (first | exact (Kd.C_below HR0_2.out HB.out) | (with_reducible refine Kd.CqA ?_ _) | (with_reducible refine Kd.CqN ?_ _) | (with_reducible refine Kd.CqD ?_)))
        (case side2 => exact HC0_2.out)
        rintro e w102 ⟨v1278, rfl, ho0, hb⟩
        refine ⟨_, rfl, ?_⟩
        have n0_ := Aq.mk (Kd.R_elder' (by (with_reducible repeat (first | apply Kd.RqA | apply Kd.RqN | apply Kd.RqD)); exact HO_6.out) (Kd.R_base ho0) hb)
        have n1_ := Aq.mk (Kd.R_elder' (by (with_reducible repeat (first | apply Kd.RqA | apply Kd.RqN | apply Kd.RqD)); exact HO_9.out) (Kd.R_base ho0) hb)
        have n2_ := Aq.mk (Kd.R_elder' (by (with_reducible repeat (first | apply Kd.RqA | apply Kd.RqN | apply Kd.RqD)); exact HO_10.out) (Kd.R_base ho0) hb)
        have n3_ := Aq.mk (Kd.R_elder' (by (with_reducible repeat (first | apply Kd.RqA | apply Kd.RqN | apply Kd.RqD)); exact HO_1267002.out) (Kd.R_base ho0) hb)
        have n4_ := Aq.mk (Kd.R_lower (Kd.R_new' (Kd.R_new' (Kd.R_new' (Kd.R_new' ho0 (Kd.R_lt (by (with_reducible repeat (first | apply Kd.RqA | apply Kd.RqN | apply Kd.RqD)); exact HO_6.out))) (Kd.R_lt (by (with_reducible repeat (first | apply Kd.RqA | apply Kd.RqN | apply Kd.RqD)); exact HO_9.out))) (Kd.R_lt (by (with_reducible repeat (first | apply Kd.RqA | apply Kd.RqN | apply Kd.RqD)); exact HO_10.out))) (Kd.R_lt (by (with_reducible repeat (first | apply Kd.RqA | apply Kd.RqN | apply Kd.RqD)); exact HO_1267002.out))) (bQZ (by repeat (first | (with_reducible first | exact HB.out | apply bQA | apply bQN | apply bQ1 | refine bQS ?_ GE1245.out | refine bQS ?_ GE1266.out) | exact HB.out))))
        have n5_ := Aq.mk (kQB (g := gb1245) (o := .cells #[.int .i64 a0_0, .int .i64 a0_1, .slice A0_2 l0_2.length c0_2, .int .i64 a0_3] 45 (0, 0)) (by (with_reducible repeat (first | refine kQN ?_ _ | refine kQD ?_ | refine kQA ?_ _)); exact BK1245.out) hb)
        have n6_ := Aq.mk (kQB (g := gb1266) (o := .cells #[.int .i64 t1260, .int .i64 t1261, .slice Ao31 t1262.length co31, .int .i64 t1265] 49 (0, 0)) (by (with_reducible repeat (first | refine kQN ?_ _ | refine kQD ?_ | refine kQA ?_ _)); exact BK1266.out) hb)
        have n7_ := Aq.mk (bQT (by repeat (first | (with_reducible first | exact HB.out | apply bQA | apply bQN | apply bQ1 | refine bQS ?_ GE1245.out | refine bQS ?_ GE1266.out) | exact HB.out)) hb)
        clear HO_6
        clear HO_9
        clear HO_10
        clear HO_1267002
        clear BK1245
        clear BK1266
        clear HB
        have HO_6 := n0_
        have HO_9 := n1_
        have HO_10 := n2_
        have HO_1267002 := n3_
        have HO1279 := n4_
        have BK1245 := n5_
        have BK1266 := n6_
        have HB := n7_
        clear n0_ n1_ n2_ n3_ n4_ n5_ n6_ n7_
        (try clear hb)
        (try clear hb2)
        (try clear hk)
        (try clear hi)
        (try clear ho0)
        obtain ⟨Ao103, co103, eo103⟩ := Kd.R_slice HO1279.out
        (first | subst eo103 | (injection eo103 with f1_ f2_ f3_; have f4_ := f1_.symm; have f5_ := f3_.symm; clear f1_ f2_ f3_; subst f4_; subst f5_))
        refine hK.out _ _ ⟨(kQC BK1266.out 0).trans rfl, (kQC BK1266.out 1).trans rfl, (kQC BK1266.out 2).trans rfl, (kQC BK1266.out 3).trans rfl, (kQC BK1245.out 0).trans rfl, (kQC BK1245.out 1).trans rfl, (kQC BK1245.out 2).trans rfl, (kQC BK1245.out 3).trans rfl⟩ (fun hHeld => ?_)
        clear hK K
        refine norm_ (a' := ?_) ?_ ?_
        rotate_left
        ·show Act.put _ (some 54) _ = _
         simp only [Act.put, qSa, qSb, qSc, i64_w, i32_w]
         rfl
        refine one_ (i := 3) (N := some 55) #[true, true, true, true, false] rfl rfl (by kernel_rfl) (by decide) (fun K hK => ?_)
        refine goes_ Try.func39 (by kernel_rfl) rfl #[.agg #[.int .i64 t1260, .int .i64 t1261, .slice Ao31 t1262.length co31, .int .i64 t1265], .agg #[.int .i64 t1275, .int .i64 t1276, .slice Ao103 t1277.length co103, .int .i64 t1280]] (by rfl) rfl rfl (by (try simp only [List.map_toArray, List.map_cons, List.map_nil]); first | done | rfl | (simp only [List.length_drop, List.length_take]; rfl)) ?_
        with_reducible refine (laws_eqGabidulin.calls kj15 t1260 t1261 _ _ t1262 t1265 t1275 t1276 _ _ t1277 t1280 true _ ?side1 ?side2 ?side3 ?side4 A44.out).mono ?_
        (case side1 => repeat (first | exact (Kd.R_reads' HO_1267002.out).2.2 | (with_reducible refine Kd.CqA ?_ _) | (with_reducible refine Kd.CqN ?_ _) | (with_reducible refine Kd.CqD ?_)))
        (case side2 => exact (Kd.R_reads' HO_1267002.out).2.1)
        (case side3 => repeat (first | exact (Kd.R_reads' HO1279.out).2.2 | (with_reducible refine Kd.CqA ?_ _) | (with_reducible refine Kd.CqN ?_ _) | (with_reducible refine Kd.CqD ?_)))
        (case side4 => exact (Kd.R_reads' HO1279.out).2.1)
        rintro e w104 ⟨rfl, hb⟩
        refine ⟨_, rfl, ?_⟩
        have n0_ := Aq.mk (Kd.R_below (by (with_reducible repeat (first | apply Kd.RqA | apply Kd.RqN | apply Kd.RqD)); exact HO_6.out) hb)
        have n1_ := Aq.mk (Kd.R_below (by (with_reducible repeat (first | apply Kd.RqA | apply Kd.RqN | apply Kd.RqD)); exact HO_9.out) hb)
        have n2_ := Aq.mk (Kd.R_below (by (with_reducible repeat (first | apply Kd.RqA | apply Kd.RqN | apply Kd.RqD)); exact HO_10.out) hb)
        have n3_ := Aq.mk (Kd.R_below (by (with_reducible repeat (first | apply Kd.RqA | apply Kd.RqN | apply Kd.RqD)); exact HO_1267002.out) hb)
        have n4_ := Aq.mk (Kd.R_below (by (with_reducible repeat (first | apply Kd.RqA | apply Kd.RqN | apply Kd.RqD)); exact HO1279.out) hb)
        have n5_ := Aq.mk (kQB (g := gb1245) (o := .cells #[.int .i64 a0_0, .int .i64 a0_1, .slice A0_2 l0_2.length c0_2, .int .i64 a0_3] 45 (0, 0)) (by (with_reducible repeat (first | refine kQN ?_ _ | refine kQD ?_ | refine kQA ?_ _)); exact BK1245.out) hb)
        have n6_ := Aq.mk (kQB (g := gb1266) (o := .cells #[.int .i64 t1260, .int .i64 t1261, .slice Ao31 t1262.length co31, .int .i64 t1265] 49 (0, 0)) (by (with_reducible repeat (first | refine kQN ?_ _ | refine kQD ?_ | refine kQA ?_ _)); exact BK1266.out) hb)
        have n7_ := Aq.mk (bQT (by repeat (first | (with_reducible first | exact HB.out | apply bQA | apply bQN | apply bQ1 | refine bQS ?_ GE1245.out | refine bQS ?_ GE1266.out) | exact HB.out)) hb)
        clear HO_6
        clear HO_9
        clear HO_10
        clear HO_1267002
        clear HO1279
        clear BK1245
        clear BK1266
        clear HB
        have HO_6 := n0_
        have HO_9 := n1_
        have HO_10 := n2_
        have HO_1267002 := n3_
        have HO1279 := n4_
        have BK1245 := n5_
        have BK1266 := n6_
        have HB := n7_
        clear n0_ n1_ n2_ n3_ n4_ n5_ n6_ n7_
        (try clear hb)
        (try clear hb2)
        (try clear hk)
        (try clear hi)
        refine hK.out _ _ ⟨(kQC BK1266.out 0).trans rfl, (kQC BK1266.out 1).trans rfl, (kQC BK1266.out 2).trans rfl, (kQC BK1266.out 3).trans rfl, (kQC BK1245.out 0).trans rfl, (kQC BK1245.out 1).trans rfl, (kQC BK1245.out 2).trans rfl, (kQC BK1245.out 3).trans rfl⟩ (fun hHeld => ?_)
        clear hK K
        refine norm_ (a' := ?_) ?_ ?_
        rotate_left
        ·show Act.put _ (some 55) _ = _
         simp only [Act.put, qSa, qSb, qSc, i64_w, i32_w]
         rfl
        refine pure_ (i := 4) (N := some 56) (v := ?_) (a' := ?_) #[true, true, true, true, true] rfl rfl (by kernel_rfl) (fun _ _ _ h => h) (Or.inl ⟨by rfl, ?_⟩) ?_ ?_
        rotate_left
        ·intro w'
         go_simp
         with_reducible rfl
        rotate_left
        ·simp only [Act.put, qSa, qSb, qSc, i64_w, i32_w]
         rfl
        refine done_ (by kernel_rfl) ?_
        try go_wp2_with (first | ((with_reducible refine gQc (f := 19) rfl ?_); refine goesL_ (some 59) rfl rfl Try.func19 (by kernel_rfl) rfl #[.slice A1 l1.length c1] rfl (by (try simp only [List.map_toArray, List.map_cons, List.map_nil]); first | done | rfl | (simp only [List.length_drop, List.length_take]; rfl)) ?_; (with_reducible refine (laws_toInt64S.calls kj15 _ _ l1 t1282 _ ?side1 ?side2 A46.out).mono ?_); (case side1 => repeat (first | exact (Kd.C_below HR1.out HB.out) | (with_reducible refine Kd.CqA ?_ _) | (with_reducible refine Kd.CqN ?_ _) | (with_reducible refine Kd.CqD ?_))); (case side2 => exact HC1.out); rintro e w105 ⟨v1283, rfl, ho0, hb⟩; refine ⟨_, rfl, ?_⟩; have n0_ := Aq.mk (Kd.R_elder' (by (with_reducible repeat (first | apply Kd.RqA | apply Kd.RqN | apply Kd.RqD)); exact HO_6.out) (Kd.R_base ho0) hb); have n1_ := Aq.mk (Kd.R_elder' (by (with_reducible repeat (first | apply Kd.RqA | apply Kd.RqN | apply Kd.RqD)); exact HO_9.out) (Kd.R_base ho0) hb); have n2_ := Aq.mk (Kd.R_elder' (by (with_reducible repeat (first | apply Kd.RqA | apply Kd.RqN | apply Kd.RqD)); exact HO_10.out) (Kd.R_base ho0) hb); have n3_ := Aq.mk (Kd.R_elder' (by (with_reducible repeat (first | apply Kd.RqA | apply Kd.RqN | apply Kd.RqD)); exact HO_1267002.out) (Kd.R_base ho0) hb); have n4_ := Aq.mk (Kd.R_elder' (by (with_reducible repeat (first | apply Kd.RqA | apply Kd.RqN | apply Kd.RqD)); exact HO1279.out) (Kd.R_base ho0) hb); have n5_ := Aq.mk (Kd.R_lower (Kd.R_new' (Kd.R_new' (Kd.R_new' (Kd.R_new' (Kd.R_new' ho0 (Kd.R_lt (by (with_reducible repeat (first | apply Kd.RqA | apply Kd.RqN | apply Kd.RqD)); exact HO_6.out))) (Kd.R_lt (by (with_reducible repeat (first | apply Kd.RqA | apply Kd.RqN | apply Kd.RqD)); exact HO_9.out))) (Kd.R_lt (by (with_reducible repeat (first | apply Kd.RqA | apply Kd.RqN | apply Kd.RqD)); exact HO_10.out))) (Kd.R_lt (by (with_reducible repeat (first | apply Kd.RqA | apply Kd.RqN | apply Kd.RqD)); exact HO_1267002.out))) (Kd.R_lt (by (with_reducible repeat (first | apply Kd.RqA | apply Kd.RqN | apply Kd.RqD)); exact HO1279.out))) (bQZ (by repeat (first | (with_reducible first | exact HB.out | apply bQA | apply bQN | apply bQ1 | refine bQS ?_ GE1245.out | refine bQS ?_ GE1266.out) | exact HB.out)))); have n6_ := Aq.mk (kQB (g := gb1245) (o := .cells #[.int .i64 a0_0, .int .i64 a0_1, .slice A0_2 l0_2.length c0_2, .int .i64 a0_3] 45 (0, 0)) (by (with_reducible repeat (first | refine kQN ?_ _ | refine kQD ?_ | refine kQA ?_ _)); exact BK1245.out) hb); have n7_ := Aq.mk (kQB (g := gb1266) (o := .cells #[.int .i64 t1260, .int .i64 t1261, .slice Ao31 t1262.length co31, .int .i64 t1265] 49 (0, 0)) (by (with_reducible repeat (first | refine kQN ?_ _ | refine kQD ?_ | refine kQA ?_ _)); exact BK1266.out) hb); have n8_ := Aq.mk (bQT (by repeat (first | (with_reducible first | exact HB.out | apply bQA | apply bQN | apply bQ1 | refine bQS ?_ GE1245.out | refine bQS ?_ GE1266.out) | exact HB.out)) hb); clear HO_6; clear HO_9; clear HO_10; clear HO_1267002; clear HO1279; clear BK1245; clear BK1266; clear HB; have HO_6 := n0_; have HO_9 := n1_; have HO_10 := n2_; have HO_1267002 := n3_; have HO1279 := n4_; have HO1284 := n5_; have BK1245 := n6_; have BK1266 := n7_; have HB := n8_; clear n0_ n1_ n2_ n3_ n4_ n5_ n6_ n7_ n8_; (try clear hb); (try clear hb2); (try clear hk); (try clear hi); (try clear ho0); obtain ⟨Ao106, co106, eo106⟩ := Kd.R_slice HO1284.out; subst eo106) | ((with_reducible refine gQc (f := 22) rfl ?_); refine goesL_ (some 60) rfl rfl Try.func22 (by kernel_rfl) rfl #[.slice Ao34 t1267.length co34, .slice Ao106 t1282.length co106] rfl (by (try simp only [List.map_toArray, List.map_cons, List.map_nil]); first | done | rfl | (simp only [List.length_drop, List.length_take]; rfl)) ?_; (with_reducible refine (laws_eqInt64S.calls kj15 _ _ t1267 _ _ t1282 false _ ?side1 ?side2 ?side3 ?side4 A47.out).mono ?_); (case side1 => repeat (first | exact (Kd.R_reads' HO_9.out).2.2 | (with_reducible refine Kd.CqA ?_ _) | (with_reducible refine Kd.CqN ?_ _) | (with_reducible refine Kd.CqD ?_))); (case side2 => exact (Kd.R_reads' HO_9.out).2.1); (case side3 => repeat (first | exact (Kd.R_reads' HO1284.out).2.2 | (with_reducible refine Kd.CqA ?_ _) | (with_reducible refine Kd.CqN ?_ _) | (with_reducible refine Kd.CqD ?_))); (case side4 => exact (Kd.R_reads' HO1284.out).2.1); rintro e w' ⟨rfl, ⟨nd, rfl⟩⟩; refine ⟨_, rfl, ?_⟩))
        go_ret
        exact ⟨by first | rfl | (simp [errW_none, errW_some] <;> rfl) | (simp [*, errW_none, errW_some] <;> rfl), by repeat (first | (with_reducible first | exact HB.out | apply bQA | apply bQN | apply bQ1 | refine bQS ?_ GE1245.out | refine bQS ?_ GE1266.out) | exact HB.out)⟩
      ·replace c45 := Bool.eq_false_iff.mpr c45
       subst c45
       have H1 : (some false) = some r := by rw [if_neg (show ¬ (false = true) by decide)] at H; exact H
       clear H
       have H := H1
       clear H1
       obtain rfl := Option.some.inj H
       try go_wp2
       have n0_ := Aq.mk (Kd.RqD HO_6.out)
       have n1_ := Aq.mk (Kd.RqD HO_9.out)
       have n2_ := Aq.mk (Kd.RqD HO_10.out)
       have n3_ := Aq.mk (Kd.RqD HO_1267002.out)
       have n4_ := Aq.mk (kQD BK1245.out)
       have n5_ := Aq.mk (kQD BK1266.out)
       have n6_ := Aq.mk (bQ1 HB.out)
       clear HO_6
       clear HO_9
       clear HO_10
       clear HO_1267002
       clear BK1245
       clear BK1266
       clear HB
       have HO_6 := n0_
       have HO_9 := n1_
       have HO_10 := n2_
       have HO_1267002 := n3_
       have BK1245 := n4_
       have BK1266 := n5_
       have HB := n6_
       clear n0_ n1_ n2_ n3_ n4_ n5_ n6_
       refine start_ (n := 5) (S := fun w' => w'.cell? ⟨gb1266, 0, none⟩ = some (.int .i64 t1260) ∧ w'.cell? ⟨gb1266, 1, none⟩ = some (.int .i64 t1261) ∧ w'.cell? ⟨gb1266, 2, none⟩ = some (.slice Ao31 t1262.length co31) ∧ w'.cell? ⟨gb1266, 3, none⟩ = some (.int .i64 t1265) ∧ w'.cell? ⟨gb1245, 0, none⟩ = some (.int .i64 a0_0) ∧ w'.cell? ⟨gb1245, 1, none⟩ = some (.int .i64 a0_1) ∧ w'.cell? ⟨gb1245, 2, none⟩ = some (.slice A0_2 l0_2.length c0_2) ∧ w'.cell? ⟨gb1245, 3, none⟩ = some (.int .i64 a0_3)) (ds := []) #[false, false, false, false, false] (by kernel_rfl) rfl rfl ⟨(kQC BK1266.out 0).trans rfl, (kQC BK1266.out 1).trans rfl, (kQC BK1266.out 2).trans rfl, (kQC BK1266.out 3).trans rfl, (kQC BK1245.out 0).trans rfl, (kQC BK1245.out 1).trans rfl, (kQC BK1245.out 2).trans rfl, (kQC BK1245.out 3).trans rfl⟩ (fun hHeld => ?_)
       generalize wc.drew = w107 at HO_6 HO_9 HO_10 HO_1267002 BK1245 BK1266 HB hHeld ⊢
       refine take_ (i := 0) (N := some 52) (v := ?_) (a' := ?_) #[true, false, false, false, false] rfl rfl (by kernel_rfl) (fun _ _ _ h => h) (Or.inl ⟨by rfl, ?_⟩) hHeld ?_ ?_
       rotate_left
       ·rintro w' ⟨s0, s1, s2, s3, s4, s5, s6, s7⟩
        go_simp
        with_reducible rfl
       rotate_left
       ·simp only [Act.put, qSa, qSb, qSc, i64_w, i32_w]
        rfl
       refine take_ (i := 1) (N := some 53) (v := ?_) (a' := ?_) #[true, true, false, false, false] rfl rfl (by kernel_rfl) (fun _ _ _ h => h) (Or.inl ⟨by rfl, ?_⟩) hHeld ?_ ?_
       rotate_left
       ·rintro w' ⟨s0, s1, s2, s3, s4, s5, s6, s7⟩
        go_simp
        with_reducible rfl
       rotate_left
       ·simp only [Act.put, qSa, qSb, qSc, i64_w, i32_w]
        rfl
       refine one_ (i := 2) (N := some 54) #[true, true, true, false, false] rfl rfl (by kernel_rfl) (by decide) (fun K hK => ?_)
       refine goes_ Try.func37 (by kernel_rfl) rfl #[.agg #[.int .i64 a0_0, .int .i64 a0_1, .slice A0_2 l0_2.length c0_2, .int .i64 a0_3]] (by rfl) rfl rfl (by (try simp only [List.map_toArray, List.map_cons, List.map_nil]); first | done | rfl | (simp only [List.length_drop, List.length_take]; rfl)) ?_
       with_reducible refine (laws_toGabidulin.calls kj15 a0_0 a0_1 _ _ l0_2 a0_3 t1275 t1276 t1277 t1280 _ ?side1 ?side2 A43.out).mono ?_
       (case side1 => repeat (first | exact (Kd.C_below HR0_2.out HB.out) | (with_reducible refine Kd.CqA ?_ _) | (with_reducible refine Kd.CqN ?_ _) | (with_reducible refine Kd.CqD ?_)))
       (case side2 => exact HC0_2.out)
       rintro e w108 ⟨v1278, rfl, ho0, hb⟩
       refine ⟨_, rfl, ?_⟩
       have n0_ := Aq.mk (Kd.R_elder' (by (with_reducible repeat (first | apply Kd.RqA | apply Kd.RqN | apply Kd.RqD)); exact HO_6.out) (Kd.R_base ho0) hb)
       have n1_ := Aq.mk (Kd.R_elder' (by (with_reducible repeat (first | apply Kd.RqA | apply Kd.RqN | apply Kd.RqD)); exact HO_9.out) (Kd.R_base ho0) hb)
       have n2_ := Aq.mk (Kd.R_elder' (by (with_reducible repeat (first | apply Kd.RqA | apply Kd.RqN | apply Kd.RqD)); exact HO_10.out) (Kd.R_base ho0) hb)
       have n3_ := Aq.mk (Kd.R_elder' (by (with_reducible repeat (first | apply Kd.RqA | apply Kd.RqN | apply Kd.RqD)); exact HO_1267002.out) (Kd.R_base ho0) hb)
       have n4_ := Aq.mk (Kd.R_lower (Kd.R_new' (Kd.R_new' (Kd.R_new' (Kd.R_new' ho0 (Kd.R_lt (by (with_reducible repeat (first | apply Kd.RqA | apply Kd.RqN | apply Kd.RqD)); exact HO_6.out))) (Kd.R_lt (by (with_reducible repeat (first | apply Kd.RqA | apply Kd.RqN | apply Kd.RqD)); exact HO_9.out))) (Kd.R_lt (by (with_reducible repeat (first | apply Kd.RqA | apply Kd.RqN | apply Kd.RqD)); exact HO_10.out))) (Kd.R_lt (by (with_reducible repeat (first | apply Kd.RqA | apply Kd.RqN | apply Kd.RqD)); exact HO_1267002.out))) (bQZ (by repeat (first | (with_reducible first | exact HB.out | apply bQA | apply bQN | apply bQ1 | refine bQS ?_ GE1245.out | refine bQS ?_ GE1266.out) | exact HB.out))))
       have n5_ := Aq.mk (kQB (g := gb1245) (o := .cells #[.int .i64 a0_0, .int .i64 a0_1, .slice A0_2 l0_2.length c0_2, .int .i64 a0_3] 45 (0, 0)) (by (with_reducible repeat (first | refine kQN ?_ _ | refine kQD ?_ | refine kQA ?_ _)); exact BK1245.out) hb)
       have n6_ := Aq.mk (kQB (g := gb1266) (o := .cells #[.int .i64 t1260, .int .i64 t1261, .slice Ao31 t1262.length co31, .int .i64 t1265] 49 (0, 0)) (by (with_reducible repeat (first | refine kQN ?_ _ | refine kQD ?_ | refine kQA ?_ _)); exact BK1266.out) hb)
       have n7_ := Aq.mk (bQT (by repeat (first | (with_reducible first | exact HB.out | apply bQA | apply bQN | apply bQ1 | refine bQS ?_ GE1245.out | refine bQS ?_ GE1266.out) | exact HB.out)) hb)
       clear HO_6
       clear HO_9
       clear HO_10
       clear HO_1267002
       clear BK1245
       clear BK1266
       clear HB
       have HO_6 := n0_
       have HO_9 := n1_
       have HO_10 := n2_
       have HO_1267002 := n3_
       have HO1279 := n4_
       have BK1245 := n5_
       have BK1266 := n6_
       have HB := n7_
       clear n0_ n1_ n2_ n3_ n4_ n5_ n6_ n7_
       (try clear hb)
       (try clear hb2)
       (try clear hk)
       (try clear hi)
       (try clear ho0)
       obtain ⟨Ao109, co109, eo109⟩ := Kd.R_slice HO1279.out
       (first | subst eo109 | (injection eo109 with f1_ f2_ f3_; have f4_ := f1_.symm; have f5_ := f3_.symm; clear f1_ f2_ f3_; subst f4_; subst f5_))
       refine hK.out _ _ ⟨(kQC BK1266.out 0).trans rfl, (kQC BK1266.out 1).trans rfl, (kQC BK1266.out 2).trans rfl, (kQC BK1266.out 3).trans rfl, (kQC BK1245.out 0).trans rfl, (kQC BK1245.out 1).trans rfl, (kQC BK1245.out 2).trans rfl, (kQC BK1245.out 3).trans rfl⟩ (fun hHeld => ?_)
       clear hK K
       refine norm_ (a' := ?_) ?_ ?_
       rotate_left
       ·show Act.put _ (some 54) _ = _
        simp only [Act.put, qSa, qSb, qSc, i64_w, i32_w]
        rfl
       refine one_ (i := 3) (N := some 55) #[true, true, true, true, false] rfl rfl (by kernel_rfl) (by decide) (fun K hK => ?_)
       refine goes_ Try.func39 (by kernel_rfl) rfl #[.agg #[.int .i64 t1260, .int .i64 t1261, .slice Ao31 t1262.length co31, .int .i64 t1265], .agg #[.int .i64 t1275, .int .i64 t1276, .slice Ao109 t1277.length co109, .int .i64 t1280]] (by rfl) rfl rfl (by (try simp only [List.map_toArray, List.map_cons, List.map_nil]); first | done | rfl | (simp only [List.length_drop, List.length_take]; rfl)) ?_
       with_reducible refine (laws_eqGabidulin.calls kj15 t1260 t1261 _ _ t1262 t1265 t1275 t1276 _ _ t1277 t1280 false _ ?side1 ?side2 ?side3 ?side4 A44.out).mono ?_
       (case side1 => repeat (first | exact (Kd.R_reads' HO_1267002.out).2.2 | (with_reducible refine Kd.CqA ?_ _) | (with_reducible refine Kd.CqN ?_ _) | (with_reducible refine Kd.CqD ?_)))
       (case side2 => exact (Kd.R_reads' HO_1267002.out).2.1)
       (case side3 => repeat (first | exact (Kd.R_reads' HO1279.out).2.2 | (with_reducible refine Kd.CqA ?_ _) | (with_reducible refine Kd.CqN ?_ _) | (with_reducible refine Kd.CqD ?_)))
       (case side4 => exact (Kd.R_reads' HO1279.out).2.1)
       rintro e w110 ⟨rfl, hb⟩
       refine ⟨_, rfl, ?_⟩
       have n0_ := Aq.mk (Kd.R_below (by (with_reducible repeat (first | apply Kd.RqA | apply Kd.RqN | apply Kd.RqD)); exact HO_6.out) hb)
       have n1_ := Aq.mk (Kd.R_below (by (with_reducible repeat (first | apply Kd.RqA | apply Kd.RqN | apply Kd.RqD)); exact HO_9.out) hb)
       have n2_ := Aq.mk (Kd.R_below (by (with_reducible repeat (first | apply Kd.RqA | apply Kd.RqN | apply Kd.RqD)); exact HO_10.out) hb)
       have n3_ := Aq.mk (Kd.R_below (by (with_reducible repeat (first | apply Kd.RqA | apply Kd.RqN | apply Kd.RqD)); exact HO_1267002.out) hb)
       have n4_ := Aq.mk (Kd.R_below (by (with_reducible repeat (first | apply Kd.RqA | apply Kd.RqN | apply Kd.RqD)); exact HO1279.out) hb)
       have n5_ := Aq.mk (kQB (g := gb1245) (o := .cells #[.int .i64 a0_0, .int .i64 a0_1, .slice A0_2 l0_2.length c0_2, .int .i64 a0_3] 45 (0, 0)) (by (with_reducible repeat (first | refine kQN ?_ _ | refine kQD ?_ | refine kQA ?_ _)); exact BK1245.out) hb)
       have n6_ := Aq.mk (kQB (g := gb1266) (o := .cells #[.int .i64 t1260, .int .i64 t1261, .slice Ao31 t1262.length co31, .int .i64 t1265] 49 (0, 0)) (by (with_reducible repeat (first | refine kQN ?_ _ | refine kQD ?_ | refine kQA ?_ _)); exact BK1266.out) hb)
       have n7_ := Aq.mk (bQT (by repeat (first | (with_reducible first | exact HB.out | apply bQA | apply bQN | apply bQ1 | refine bQS ?_ GE1245.out | refine bQS ?_ GE1266.out) | exact HB.out)) hb)
       clear HO_6
       clear HO_9
       clear HO_10
       clear HO_1267002
       clear HO1279
       clear BK1245
       clear BK1266
       clear HB
       have HO_6 := n0_
       have HO_9 := n1_
       have HO_10 := n2_
       have HO_1267002 := n3_
       have HO1279 := n4_
       have BK1245 := n5_
       have BK1266 := n6_
       have HB := n7_
       clear n0_ n1_ n2_ n3_ n4_ n5_ n6_ n7_
       (try clear hb)
       (try clear hb2)
       (try clear hk)
       (try clear hi)
       refine hK.out _ _ ⟨(kQC BK1266.out 0).trans rfl, (kQC BK1266.out 1).trans rfl, (kQC BK1266.out 2).trans rfl, (kQC BK1266.out 3).trans rfl, (kQC BK1245.out 0).trans rfl, (kQC BK1245.out 1).trans rfl, (kQC BK1245.out 2).trans rfl, (kQC BK1245.out 3).trans rfl⟩ (fun hHeld => ?_)
       clear hK K
       refine norm_ (a' := ?_) ?_ ?_
       rotate_left
       ·show Act.put _ (some 55) _ = _
        simp only [Act.put, qSa, qSb, qSc, i64_w, i32_w]
        rfl
       refine pure_ (i := 4) (N := some 56) (v := ?_) (a' := ?_) #[true, true, true, true, true] rfl rfl (by kernel_rfl) (fun _ _ _ h => h) (Or.inl ⟨by rfl, ?_⟩) ?_ ?_
       rotate_left
       ·intro w'
        go_simp
        with_reducible rfl
       rotate_left
       ·simp only [Act.put, qSa, qSb, qSc, i64_w, i32_w]
        rfl
       refine done_ (by kernel_rfl) ?_
       try go_wp2
       go_ret
       exact ⟨by first | rfl | (simp [errW_none, errW_some] <;> rfl) | (simp [*, errW_none, errW_some] <;> rfl), by repeat (first | (with_reducible first | exact HB.out | apply bQA | apply bQN | apply bQ1 | refine bQS ?_ GE1245.out | refine bQS ?_ GE1266.out) | exact HB.out)⟩
end Go.Proofs.Ytngiionckbmkmaa.P
