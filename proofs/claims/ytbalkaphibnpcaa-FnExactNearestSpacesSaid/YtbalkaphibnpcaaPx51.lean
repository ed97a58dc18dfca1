/- Functions of the program and what they tell, as the printing program wrote it. -/
import Derived.Test.YtbalkaphibnpcaaPx0
import Derived.Test.YtbalkaphibnpcaaPx1
import Derived.Test.YtbalkaphibnpcaaPx4
import Derived.Test.YtbalkaphibnpcaaPx18
import Derived.Test.YtbalkaphibnpcaaPx22
import Derived.Test.YtbalkaphibnpcaaPx27
import Derived.Test.YtbalkaphibnpcaaPx43
import Derived.Test.YtbalkaphibnpcaaPx45
import Derived.Test.YtbalkaphibnpcaaPx46
namespace Go.Proofs.Ytbalkaphibnpcaa.P
open Go.Shelf Go.RowKit Go.Proofs.YtbalkaphibnpcaaW.PrintWords Go.Proofs.YtbalkaphibnpcaaW.PrintLast Go.Proofs.YtbalkaphibnpcaaW.PrintMore
attribute [local go_sem] max2_int min2_int max_two min_two max_three min_three max_four min_four
set_option linter.unusedVariables false
set_option linter.unusedSimpArgs false
set_option maxHeartbeats 8000000
set_option maxRecDepth 100000
theorem ghost1 {α : Type} {d : Kd α} {e b g : Nat} {W w' : World} {ok : Nat → Prop} {v v6 : Value} {xs : List α} (h4 : Kd.S d e w' W.heap.size ok v xs) (h6 : ∀ k, v6.ownBlock = some k → k < W.heap.size) (hg : g < W.heap.size) (hb : b ≤ W.heap.size) :
 ∃ n3, (∀ k, v6.ownBlock = some k → k < n3) ∧ g < n3 ∧ Kd.S d e w' b (fun k => n3 ≤ k ∧ k < w'.heap.size) v xs :=
 ⟨W.heap.size, h6, hg, Kd.S_lower (Kd.S_mono (Kd.S_bound h4) (fun _ hk => ⟨hk.2.1, hk.2.2.1⟩)) hb⟩
mutual
def laws_FnExactNearestSpaces.j0 : Nat → List (S59) → Int → List Int → Int → List (S63) → Int → List Int → Int → Bool → Int → List Int → Int → List Int → Option (Bool)
  | 0, _, _, _, _, _, _, _, _, _, _, _, _, _ => none
  | k + 1, x0, x6, x7, x8, x9, x11, x12, x13, x63, x834000, x834001, x856000, x856001 => if x63 = true then (some false) else ((laws_toMatrixS.f k x0).bind fun t862 => ((laws_eqMatrixS.f k x9 t862).bind fun t865 => (if t865 = true then ((laws_toMatrix.f k x834000 x834001).bind fun bt866 => ((laws_eqMatrix.f k x856000 x856001 bt866.1 bt866.2).bind fun t870 => (if t870 = true then ((laws_markMatrixS.f k x9 1).bind fun bt871 => ((laws_markMatrix.f k x856000 x856001 bt871.1).bind fun bt872 => (if bt872.1 < 0 then (laws_FnExactNearestSpaces.j1 k x0 x6 x7 x8 x12 true x834000 x834001) else (if x11 = x6 then ((laws_eqInt64S.f k x12 x7).bind fun t874 => (if t874 = true then (laws_FnExactNearestSpaces.j1 k x0 x6 x7 x8 x12 (x13 != x8) x834000 x834001) else (laws_FnExactNearestSpaces.j1 k x0 x6 x7 x8 x12 true x834000 x834001))) else (laws_FnExactNearestSpaces.j1 k x0 x6 x7 x8 x12 true x834000 x834001))))) else (some false)))) else (some false))))
def laws_FnExactNearestSpaces.j1 : Nat → List (S59) → Int → List Int → Int → List Int → Bool → Int → List Int → Option (Bool)
  | 0, _, _, _, _, _, _, _, _ => none
  | k + 1, x0, x6, x7, x8, x12, x97, x834000, x834001 => if x97 = true then (some false) else ((laws_markInt64S.f k x12 1).bind fun bt875 => ((laws_heldInt64S.f k bt875.2 1).bind fun t877 => (if t877 < 0 then (some false) else (if t877 = bt875.1 then ((laws_toMatrixS.f k x0).bind fun t878 => ((laws_toMatrix.f k x834000 x834001).bind fun bt881 => ((impl_NearestSpaces.f k t878 bt881.1 bt881.2).bind fun bt885 => (if bt885.1 = x6 then ((laws_eqInt64S.f k bt885.2.1 x7).bind fun t890 => (if t890 = true then (laws_FnExactNearestSpaces.j2 k bt875.2 bt875.1 (bt885.2.2 != x8)) else (laws_FnExactNearestSpaces.j2 k bt875.2 bt875.1 true))) else (laws_FnExactNearestSpaces.j2 k bt875.2 bt875.1 true))))) else (some false)))))
def laws_FnExactNearestSpaces.j2 : Nat → List Int → Int → Bool → Option (Bool)
  | 0, _, _, _ => none
  | k + 1, x12, x15, x131 => if x131 = true then (some false) else ((laws_heldInt64S.f k x12 1).bind fun t891 => (if t891 < 0 then (some false) else (if t891 = x15 then (some true) else (some false))))
end
def laws_FnExactNearestSpaces.f (k : Nat) (l0 : List (S59)) (a1_0 : Int) (l1_1 : List Int) : Option (Bool) := (laws_szMatrixS.f k l0 1048576).bind fun t834 => (if t834 < 0 then (some true) else ((laws_szMatrix.f a1_0 l1_1 t834).bind fun t835 => (if t835 < 0 then (some true) else ((laws_toMatrixS.f k l0).bind fun t836 => ((laws_toMatrix.f k a1_0 l1_1).bind fun bt839 => ((spec_NearestSpaces.f k t836 bt839.1 bt839.2).bind fun bt843 => ((laws_toMatrixS.f k l0).bind fun t848 => ((laws_toMatrix.f k a1_0 l1_1).bind fun bt851 => ((impl_NearestSpaces.f k t848 bt851.1 bt851.2).bind fun bt856 => (if bt856.1 = bt843.1 then ((laws_eqInt64S.f k bt856.2.1 bt843.2.1).bind fun t861 => (if t861 = true then (laws_FnExactNearestSpaces.j0 k l0 bt843.1 bt843.2.1 bt843.2.2 t848 bt856.1 bt856.2.1 bt856.2.2 (bt856.2.2 != bt843.2.2) a1_0 l1_1 bt851.1 bt851.2) else (laws_FnExactNearestSpaces.j0 k l0 bt843.1 bt843.2.1 bt843.2.2 t848 bt856.1 bt856.2.1 bt856.2.2 true a1_0 l1_1 bt851.1 bt851.2))) else (laws_FnExactNearestSpaces.j0 k l0 bt843.1 bt843.2.1 bt843.2.2 t848 bt856.1 bt856.2.1 bt856.2.2 true a1_0 l1_1 bt851.1 bt851.2)))))))))))
theorem laws_FnExactNearestSpaces.mono_l : ∀ k, (∀ y0 y1 y2 y3 y4 y5 y6 y7 y8 y9 y10 y11 y12, LeO (laws_FnExactNearestSpaces.j0 k y0 y1 y2 y3 y4 y5 y6 y7 y8 y9 y10 y11 y12) (laws_FnExactNearestSpaces.j0 (k + 1) y0 y1 y2 y3 y4 y5 y6 y7 y8 y9 y10 y11 y12)) ∧ (∀ y0 y1 y2 y3 y4 y5 y6 y7, LeO (laws_FnExactNearestSpaces.j1 k y0 y1 y2 y3 y4 y5 y6 y7) (laws_FnExactNearestSpaces.j1 (k + 1) y0 y1 y2 y3 y4 y5 y6 y7)) ∧ (∀ y0 y1 y2, LeO (laws_FnExactNearestSpaces.j2 k y0 y1 y2) (laws_FnExactNearestSpaces.j2 (k + 1) y0 y1 y2))
 | 0 => ⟨fun _ _ _ _ _ _ _ _ _ _ _ _ _ r h => by simp [laws_FnExactNearestSpaces.j0] at h, fun _ _ _ _ _ _ _ _ r h => by simp [laws_FnExactNearestSpaces.j1] at h, fun _ _ _ r h => by simp [laws_FnExactNearestSpaces.j2] at h⟩
 | k + 1 => by
  obtain ⟨ih0, ih1, ih2⟩ := laws_FnExactNearestSpaces.mono_l k
  refine ⟨?_, ?_, ?_⟩ <;> intros <;> first | unfold laws_FnExactNearestSpaces.j0 | unfold laws_FnExactNearestSpaces.j1 | unfold laws_FnExactNearestSpaces.j2
  all_goals repeat' first
   | (with_reducible first | apply ih0 | apply ih1 | apply ih2 | apply impl_NearestSpaces.mono | apply laws_eqInt64S.mono | apply laws_eqMatrix.mono | apply laws_eqMatrixS.mono | apply laws_heldInt64S.mono | apply laws_markInt64S.mono | apply laws_markMatrix.mono | apply laws_markMatrixS.mono | apply laws_szMatrixS.mono | apply laws_toMatrix.mono | apply laws_toMatrixS.mono | apply spec_NearestSpaces.mono | exact LeO.refl _ | exact LeO.none _ | refine LeO.ite ?_ ?_ | refine LeO.bind ?_ (fun _ => ?_))
   | exact LeO.none _
   | refine LeO.ite ?_ ?_
   | refine LeO.bind ?_ (fun _ => ?_)
theorem laws_FnExactNearestSpaces.mono : ∀ a0 a1 a2 k, LeO (laws_FnExactNearestSpaces.f k a0 a1 a2) (laws_FnExactNearestSpaces.f (k + 1) a0 a1 a2) := by
 intro a0 a1 a2 k
 obtain ⟨ih0, ih1, ih2⟩ := laws_FnExactNearestSpaces.mono_l k
 unfold laws_FnExactNearestSpaces.f
 repeat' first
  | (with_reducible first | apply ih0 | apply ih1 | apply ih2 | apply impl_NearestSpaces.mono | apply laws_eqInt64S.mono | apply laws_eqMatrix.mono | apply laws_eqMatrixS.mono | apply laws_heldInt64S.mono | apply laws_markInt64S.mono | apply laws_markMatrix.mono | apply laws_markMatrixS.mono | apply laws_szMatrixS.mono | apply laws_toMatrix.mono | apply laws_toMatrixS.mono | apply spec_NearestSpaces.mono | exact LeO.refl _ | exact LeO.none _ | refine LeO.ite ?_ ?_ | refine LeO.bind ?_ (fun _ => ?_))
  | exact LeO.none _
  | refine LeO.ite ?_ ?_
  | refine LeO.bind ?_ (fun _ => ?_)
def laws_FnExactNearestSpaces.T8 : Bool × List (List Nat × List Nat) := (true, [([], []), ([0], [0]), ([], []), ([2, 1], [2]), ([1, 3, 3], [1, 3]), ([4], [4]), ([5], [5]), ([5], [5]), ([5], [5]), ([6, 4, 0, 1, 2, 3, 4, 5, 6], [6]), ([7, 9, 0, 1, 2, 3, 4, 5, 6, 7, 9], [7]), ([8, 10, 0, 1, 2, 3, 4, 5, 6, 7, 8, 9, 10], [8])])
def laws_FnExactNearestSpaces.B8 : List Nat := [0, 1, 0, 7, 15, 31, 63, 63, 63, 127, 767, 2047]
theorem laws_FnExactNearestSpaces.tab8 : rtab .any (opsOf Try.f7 8) = laws_FnExactNearestSpaces.T8 := by kernel_rfl
theorem laws_FnExactNearestSpaces.bits8 : waitsOk laws_FnExactNearestSpaces.T8.2 laws_FnExactNearestSpaces.B8 = true := by kernel_rfl
def laws_FnExactNearestSpaces.T31 : Bool × List (List Nat × List Nat) := (true, [([], []), ([0], [0]), ([], []), ([2, 1], [2]), ([1, 3, 3], [1, 3]), ([4], [4]), ([5], [5]), ([5], [5]), ([5], [5]), ([6, 4, 0, 1, 2, 3, 4, 5, 6], [6]), ([7, 9, 0, 1, 2, 3, 4, 5, 6, 7, 9], [7]), ([8, 10, 0, 1, 2, 3, 4, 5, 6, 7, 8, 9, 10], [8])])
def laws_FnExactNearestSpaces.B31 : List Nat := [0, 1, 0, 7, 15, 31, 63, 63, 63, 127, 767, 2047]
theorem laws_FnExactNearestSpaces.tab31 : rtab .any (opsOf Try.f7 31) = laws_FnExactNearestSpaces.T31 := by kernel_rfl
theorem laws_FnExactNearestSpaces.bits31 : waitsOk laws_FnExactNearestSpaces.T31.2 laws_FnExactNearestSpaces.B31 = true := by kernel_rfl
theorem laws_FnExactNearestSpaces.calls (k : Nat) (A0 : Option Addr) (c0 : Nat) (l0 : List (S59)) (a1_0 : Int) (A1_1 : Option Addr) (c1_1 : Nat) (l1_1 : List Int) (r : Bool) (w : World) (hr0 : Kd.C k59 w A0 l0.length l0) (hc0 : l0.length ≤ c0) (hr1_1 : Kd.C (Kd.int .i64) w A1_1 l1_1.length l1_1) (hc1_1 : l1_1.length ≤ c1_1) (h : laws_FnExactNearestSpaces.f k l0 a1_0 l1_1 = some r) :
 Calls Try.prog 7 #[.slice A0 l0.length c0, .agg #[.int .i64 a1_0, .slice A1_1 l1_1.length c1_1]] w fun e w' => e = .returned (.bool r) ∧ Below w.heap.size w w' := by
 have hu59 := Try.underlying59
 have hu63 := Try.underlying63
 have HR0 := Aq.mk hr0
 have HC0 := Aq.mk hc0
 clear hr0 hc0
 have HR1_1 := Aq.mk hr1_1
 have HC1_1 := Aq.mk hc1_1
 clear hr1_1 hc1_1
 have HB := Aq.mk (Below.refl w.heap.size w)
 have H : ((laws_szMatrixS.f k l0 1048576).bind fun t834 => (if t834 < 0 then (some true) else ((laws_szMatrix.f a1_0 l1_1 t834).bind fun t835 => (if t835 < 0 then (some true) else ((laws_toMatrixS.f k l0).bind fun t836 => ((laws_toMatrix.f k a1_0 l1_1).bind fun bt839 => ((spec_NearestSpaces.f k t836 bt839.1 bt839.2).bind fun bt843 => ((laws_toMatrixS.f k l0).bind fun t848 => ((laws_toMatrix.f k a1_0 l1_1).bind fun bt851 => ((impl_NearestSpaces.f k t848 bt851.1 bt851.2).bind fun bt856 => (if bt856.1 = bt843.1 then ((laws_eqInt64S.f k bt856.2.1 bt843.2.1).bind fun t861 => (if t861 = true then (laws_FnExactNearestSpaces.j0 k l0 bt843.1 bt843.2.1 bt843.2.2 t848 bt856.1 bt856.2.1 bt856.2.2 (bt856.2.2 != bt843.2.2) a1_0 l1_1 bt851.1 bt851.2) else (laws_FnExactNearestSpaces.j0 k l0 bt843.1 bt843.2.1 bt843.2.2 t848 bt856.1 bt856.2.1 bt856.2.2 true a1_0 l1_1 bt851.1 bt851.2))) else (laws_FnExactNearestSpaces.j0 k l0 bt843.1 bt843.2.1 bt843.2.2 t848 bt856.1 bt856.2.1 bt856.2.2 true a1_0 l1_1 bt851.1 bt851.2)))))))))))) = some r := h
 clear h
 obtain ⟨t834, A3, H⟩ := qBd H
 by_cases c4 : t834 < 0
 ·rw [if_pos c4] at H
  have c4b0 := decide_eq_true c4
  clear c4
  obtain rfl := Option.some.inj H
  go_enter Try.func7, Try.ntmps7
  go_wp2_with (first | ((with_reducible refine gQd (N := 3) rfl ?_); refine xQe ?hg (N := 3) ?hd (cs := #[.int .i64 a1_0, .slice A1_1 l1_1.length c1_1]) (t := 59) ?hr ?_; (case hd => rfl); (case hg => rfl); (case hr => exact tH); intro gb833 hg w5 hbox hb; refine qM4 (bQT tB hb) hbox (tZ w hg) (tZ w hg) ?_; clear HB; intro HB BK833 GW833 GE833; clear hb hbox hg) | ((with_reducible refine gQc (f := 27) rfl ?_); refine goesL_ (some 22) rfl rfl Try.func27 (by kernel_rfl) rfl #[.slice A0 l0.length c0, .int .i64 1048576] rfl tL ?_; (with_reducible refine (laws_szMatrixS.calls k _ _ l0 1048576 t834 _ ?s1 ?s2 A3.out).mono ?_); (case s1 => exact tC ((Kd.C_below HR0.out HB.out))); (case s2 => exact HC0.out); rintro e w6 ⟨rfl, hb⟩; refine ⟨_, rfl, ?_⟩; refine qM2 (tQ BK833.out hb) (bQT tB hb) ?_; clear BK833 HB; intro BK833 HB; (try clear hb); (try clear hb2); (try clear hk); (try clear hi)))
  go_ret
  exact ⟨tE, tB⟩
 rw [if_neg c4] at H
 have c4b0 := decide_eq_false c4
 clear c4
 obtain ⟨t835, A7, H⟩ := qBd H
 by_cases c8 : t835 < 0
 ·rw [if_pos c8] at H
  have c8b0 := decide_eq_true c8
  clear c8
  obtain rfl := Option.some.inj H
  go_enter Try.func7, Try.ntmps7
  go_wp2_with (first | ((with_reducible refine gQd (N := 3) rfl ?_); refine xQe ?hg (N := 3) ?hd (cs := #[.int .i64 a1_0, .slice A1_1 l1_1.length c1_1]) (t := 59) ?hr ?_; (case hd => rfl); (case hg => rfl); (case hr => exact tH); intro gb833 hg w9 hbox hb; refine qM4 (bQT tB hb) hbox (tZ w hg) (tZ w hg) ?_; clear HB; intro HB BK833 GW833 GE833; clear hb hbox hg) | ((with_reducible refine gQc (f := 27) rfl ?_); refine goesL_ (some 22) rfl rfl Try.func27 (by kernel_rfl) rfl #[.slice A0 l0.length c0, .int .i64 1048576] rfl tL ?_; (with_reducible refine (laws_szMatrixS.calls k _ _ l0 1048576 t834 _ ?s1 ?s2 A3.out).mono ?_); (case s1 => exact tC ((Kd.C_below HR0.out HB.out))); (case s2 => exact HC0.out); rintro e w10 ⟨rfl, hb⟩; refine ⟨_, rfl, ?_⟩; refine qM2 (tQ BK833.out hb) (bQT tB hb) ?_; clear BK833 HB; intro BK833 HB; (try clear hb); (try clear hb2); (try clear hk); (try clear hi); have hcz11_0 : w10.cell? ⟨gb833, 0, none⟩ = some (.int .i64 a1_0) := (kQC BK833.out 0).trans rfl; have hcz11_1 : w10.cell? ⟨gb833, 1, none⟩ = some (.slice A1_1 l1_1.length c1_1) := (kQC BK833.out 1).trans rfl; have hfz11_0 := kQF BK833.out 0; have hfz11_1 := kQF BK833.out 1) | ((with_reducible refine gQc (f := 34) rfl ?_); refine goesL_ (some 27) rfl rfl Try.func34 (by kernel_rfl) rfl #[.agg #[.int .i64 a1_0, .slice A1_1 l1_1.length c1_1], .int .i64 t834] rfl tL ?_; (with_reducible refine (laws_szMatrix.calls a1_0 _ _ l1_1 t834 t835 _ ?s1 ?s2 A7.out).mono ?_); (case s1 => exact tC ((Kd.C_below HR1_1.out HB.out))); (case s2 => exact HC1_1.out); rintro e w12 ⟨rfl, hb⟩; refine ⟨_, rfl, ?_⟩; refine qM2 (tQ BK833.out hb) (bQT tB hb) ?_; clear BK833 HB; intro BK833 HB; (try clear hb); (try clear hb2); (try clear hk); (try clear hi)))
  go_ret
  exact ⟨tE, tB⟩
 rw [if_neg c8] at H
 have c8b0 := decide_eq_false c8
 clear c8
 obtain ⟨t836, A13, H⟩ := qBd H
 obtain ⟨⟨t839, t840⟩, A14, H⟩ := qBd H
 (try dsimp only at H)
 obtain ⟨⟨t843, t844, t847⟩, A15, H⟩ := qBd H
 (try dsimp only at H)
 obtain ⟨t848, A16, H⟩ := qBd H
 obtain ⟨⟨t851, t852⟩, A17, H⟩ := qBd H
 (try dsimp only at H)
 obtain ⟨⟨t856, t857, t860⟩, A18, H⟩ := qBd H
 (try dsimp only at H)
 have HC19 := Aq.mk H
 clear H
 go_enter Try.func7, Try.ntmps7
 try go_wp2_with (first | ((with_reducible refine gQd (N := 3) rfl ?_); refine xQe ?hg (N := 3) ?hd (cs := #[.int .i64 a1_0, .slice A1_1 l1_1.length c1_1]) (t := 59) ?hr ?_; (case hd => rfl); (case hg => rfl); (case hr => exact tH); intro gb833 hg w20 hbox hb; refine qM4 (bQT tB hb) hbox (tZ w hg) (tZ w hg) ?_; clear HB; intro HB BK833 GW833 GE833; clear hb hbox hg) | ((with_reducible refine gQc (f := 27) rfl ?_); refine goesL_ (some 22) rfl rfl Try.func27 (by kernel_rfl) rfl #[.slice A0 l0.length c0, .int .i64 1048576] rfl tL ?_; (with_reducible refine (laws_szMatrixS.calls k _ _ l0 1048576 t834 _ ?s1 ?s2 A3.out).mono ?_); (case s1 => exact tC ((Kd.C_below HR0.out HB.out))); (case s2 => exact HC0.out); rintro e w21 ⟨rfl, hb⟩; refine ⟨_, rfl, ?_⟩; refine qM2 (tQ BK833.out hb) (bQT tB hb) ?_; clear BK833 HB; intro BK833 HB; (try clear hb); (try clear hb2); (try clear hk); (try clear hi); have hcz22_0 : w21.cell? ⟨gb833, 0, none⟩ = some (.int .i64 a1_0) := (kQC BK833.out 0).trans rfl; have hcz22_1 : w21.cell? ⟨gb833, 1, none⟩ = some (.slice A1_1 l1_1.length c1_1) := (kQC BK833.out 1).trans rfl; have hfz22_0 := kQF BK833.out 0; have hfz22_1 := kQF BK833.out 1) | ((with_reducible refine gQc (f := 34) rfl ?_); refine goesL_ (some 27) rfl rfl Try.func34 (by kernel_rfl) rfl #[.agg #[.int .i64 a1_0, .slice A1_1 l1_1.length c1_1], .int .i64 t834] rfl tL ?_; (with_reducible refine (laws_szMatrix.calls a1_0 _ _ l1_1 t834 t835 _ ?s1 ?s2 A7.out).mono ?_); (case s1 => exact tC ((Kd.C_below HR1_1.out HB.out))); (case s2 => exact HC1_1.out); rintro e w23 ⟨rfl, hb⟩; refine ⟨_, rfl, ?_⟩; refine qM2 (tQ BK833.out hb) (bQT tB hb) ?_; clear BK833 HB; intro BK833 HB; (try clear hb); (try clear hb2); (try clear hk); (try clear hi)))
 have n0_ := Aq.mk (kQD BK833.out)
 have n1_ := Aq.mk (bQ1 HB.out)
 clear BK833
 clear HB
 have BK833 := n0_
 have HB := n1_
 clear n0_ n1_
 refine start_ (n := 12) (S := fun w' => w'.cell? ⟨gb833, 0, none⟩ = some (.int .i64 a1_0) ∧ w'.cell? ⟨gb833, 1, none⟩ = some (.slice A1_1 l1_1.length c1_1)) (ds := []) #[false, false, false, false, false, false, false, false, false, false, false, false] (by kernel_rfl) rfl rfl ⟨(kQC BK833.out 0).trans rfl, (kQC BK833.out 1).trans rfl⟩ (fun hHeld => ?_); refine with_tabW laws_FnExactNearestSpaces.tab8 laws_FnExactNearestSpaces.bits8 (fun HT_ HW_ => ?_)
 generalize w23.drew = w24 at BK833 HB hHeld ⊢
 refine tP0 0 31 (bm 12 1) ?_
 refine tT2 2 33 (bm 12 5) ?_
 refine one_ (i := 1) (N := some 32) (bm 12 7) rfl rfl (one_of HT_.out (by kernel_rfl)) (by decide) (fun K hK => ?_)
 refine goes_ Try.func29 (by kernel_rfl) rfl #[.slice A0 l0.length c0] (by rfl) rfl rfl tL ?_
 with_reducible refine (laws_toMatrixS.calls k _ _ l0 t836 _ ?s1 ?s2 A13.out).mono ?_
 (case s1 => exact tC ((Kd.C_below HR0.out HB.out)))
 (case s2 => exact HC0.out)
 rintro e w25 ⟨v837, rfl, ho0, hb⟩
 refine ⟨_, rfl, ?_⟩
 have n0_ := Aq.mk (Kd.S_lower ho0 (bQZ tB))
 have n1_ := Aq.mk (tQ BK833.out hb)
 have n2_ := Aq.mk (bQT tB hb)
 clear BK833
 clear HB
 have HO838 := n0_
 have BK833 := n1_
 have HB := n2_
 clear n0_ n1_ n2_
 (try clear hb)
 (try clear hb2)
 (try clear hk)
 (try clear hi)
 (try clear ho0)
 refine hK.out _ _ ⟨(kQC BK833.out 0).trans rfl, (kQC BK833.out 1).trans rfl⟩ (fun hHeld => ?_)
 clear hK K
 refine tN 32 ?_
 refine one_ (i := 3) (N := some 34) (bm 12 15) rfl rfl (one_of HT_.out (by kernel_rfl)) (by decide) (fun K hK => ?_)
 refine goes_ Try.func36 (by kernel_rfl) rfl #[.agg #[.int .i64 a1_0, .slice A1_1 l1_1.length c1_1]] (by rfl) rfl rfl tL ?_
 with_reducible refine (laws_toMatrix.calls k a1_0 _ _ l1_1 t839 t840 _ ?s1 ?s2 A14.out).mono ?_
 (case s1 => exact tC ((Kd.C_below HR1_1.out HB.out)))
 (case s2 => exact HC1_1.out)
 rintro e w26 ⟨v841, rfl, ho0, hb⟩
 refine ⟨_, rfl, ?_⟩
 have n0_ := Aq.mk (Kd.S_elder' (by (with_reducible repeat (first | apply Kd.S_alloc | apply Kd.S_drewN | apply Kd.S_drew)); exact HO838.out) (Kd.R_base ho0) hb)
 have n1_ := Aq.mk (Kd.R_lower ho0 (bQZ tB))
 have n2_ := Aq.mk (tQ BK833.out hb)
 have n3_ := Aq.mk (bQT tB hb)
 clear HO838
 clear BK833
 clear HB
 have HO838 := n0_
 have HO842 := n1_
 have BK833 := n2_
 have HB := n3_
 clear n0_ n1_ n2_ n3_
 (try clear hb)
 (try clear hb2)
 (try clear hk)
 (try clear hi)
 (try clear ho0)
 obtain ⟨Ao27, co27, eo27⟩ := Kd.S_slice HO838.out
 (first | subst eo27 | (injection eo27 with f1_ f2_ f3_; have f4_ := f1_.symm; have f5_ := f3_.symm; clear f1_ f2_ f3_; subst f4_; subst f5_))
 obtain ⟨Ao28, co28, eo28⟩ := Kd.R_slice HO842.out
 (first | subst eo28 | (injection eo28 with f1_ f2_ f3_; have f4_ := f1_.symm; have f5_ := f3_.symm; clear f1_ f2_ f3_; subst f4_; subst f5_))
 refine hK.out _ _ ⟨(kQC BK833.out 0).trans rfl, (kQC BK833.out 1).trans rfl⟩ (fun hHeld => ?_)
 clear hK K
 refine tN 34 ?_
 refine one_ (i := 4) (N := some 35) (bm 12 31) rfl rfl (one_of HT_.out (by kernel_rfl)) (by decide) (fun K hK => ?_)
 refine goes_ Try.func35 (by kernel_rfl) rfl #[.slice Ao27 t836.length co27, .agg #[.int .i64 t839, .slice Ao28 t840.length co28]] (by rfl) rfl rfl tL ?_
 with_reducible refine (spec_NearestSpaces.calls k _ _ t836 t839 _ _ t840 t843 t844 t847 _ ?s1 ?s2 ?s3 ?s4 A15.out).mono ?_
 (case s1 => exact tC ((Kd.S_reads' HO838.out).2.2))
 (case s2 => exact (Kd.S_reads' HO838.out).2.1)
 (case s3 => exact tC ((Kd.R_reads' HO842.out).2.2))
 (case s4 => exact (Kd.R_reads' HO842.out).2.1)
 rintro e w29 ⟨v845, rfl, ho0, hb⟩
 refine ⟨_, rfl, ?_⟩
 have n0_ := Aq.mk (Kd.S_elder' (by (with_reducible repeat (first | apply Kd.S_alloc | apply Kd.S_drewN | apply Kd.S_drew)); exact HO838.out) (Kd.R_base ho0) hb)
 have n1_ := Aq.mk (Kd.R_elder' (tR HO842.out) (Kd.R_base ho0) hb)
 have n2_ := Aq.mk (Kd.R_lower (Kd.R_new' ho0 (Kd.R_lt (tR HO842.out))) (bQZ tB))
 have n3_ := Aq.mk (tQ BK833.out hb)
 have n4_ := Aq.mk (bQT tB hb)
 clear HO838
 clear HO842
 clear BK833
 clear HB
 have HO838 := n0_
 have HO842 := n1_
 have HO846 := n2_
 have BK833 := n3_
 have HB := n4_
 clear n0_ n1_ n2_ n3_ n4_
 (try clear hb)
 (try clear hb2)
 (try clear hk)
 (try clear hi)
 (try clear ho0)
 refine hK.out _ _ ⟨(kQC BK833.out 0).trans rfl, (kQC BK833.out 1).trans rfl⟩ (fun hHeld => ?_)
 clear hK K
 refine tN 35 ?_
 refine tP0 5 30 (bm 12 63) ?_
 refine tP0 6 36 (bm 12 127) ?_
 refine tP0 7 37 (bm 12 255) ?_
 refine tP0 8 38 (bm 12 511) ?_
 refine tP0 9 6 (bm 12 1023) ?_
 refine tP0 10 7 (bm 12 2047) ?_
 refine tP0 11 8 (bm 12 4095) ?_
 refine done_ (done_of HT_.out (by kernel_rfl)) ?_
 go_upto_region 12 with (first | ((with_reducible refine gQc (f := 29) rfl ?_); refine goesL_ (some 40) rfl rfl Try.func29 (by kernel_rfl) rfl #[.slice A0 l0.length c0] rfl tL ?_; (with_reducible refine (laws_toMatrixS.calls k _ _ l0 t848 _ ?s1 ?s2 A16.out).mono ?_); (case s1 => exact tC ((Kd.C_below HR0.out HB.out))); (case s2 => exact HC0.out); rintro e w30 ⟨v849, rfl, ho0, hb⟩; refine ⟨_, rfl, ?_⟩; obtain ⟨n3, gh6, gh833, gs4⟩ := ghost1 (b := w.heap.size) ho0 (Kd.R_lt HO846.out) (blk_lt BK833.out) (bQZ tB); have gb4 := Below.refl w30.heap.size w30; have GH6 := Aq.mk gh6; have GH833 := Aq.mk gh833; have GS4 := Aq.mk gs4; have GB4 := Aq.mk gb4; clear gh6 gh833 gs4 gb4; refine qM6 (Kd.S_elder' (by (with_reducible repeat (first | apply Kd.S_alloc | apply Kd.S_drewN | apply Kd.S_drew)); exact HO838.out) (Kd.S_base ho0) hb) (Kd.R_below (tR HO842.out) hb) (Kd.R_below (tR HO846.out) hb) (Kd.S_lower (Kd.S_new' (Kd.S_new' (Kd.S_new' ho0 (Kd.S_lt (by (with_reducible repeat (first | apply Kd.S_alloc | apply Kd.S_drewN | apply Kd.S_drew)); exact HO838.out))) (Kd.R_lt (tR HO842.out))) (Kd.R_lt (tR HO846.out))) (bQZ tB)) (tQ BK833.out hb) (bQT tB hb) ?_; clear HO838 HO842 HO846 BK833 HB; intro HO838 HO842 HO846 HO850 BK833 HB; (try clear hb); (try clear hb2); (try clear hk); (try clear hi); (try clear ho0); have hcz31_0 : w30.cell? ⟨gb833, 0, none⟩ = some (.int .i64 a1_0) := (kQC BK833.out 0).trans rfl; have hcz31_1 : w30.cell? ⟨gb833, 1, none⟩ = some (.slice A1_1 l1_1.length c1_1) := (kQC BK833.out 1).trans rfl; have hfz31_0 := kQF BK833.out 0; have hfz31_1 := kQF BK833.out 1) | ((with_reducible refine gQc (f := 36) rfl ?_); refine goesL_ (some 42) rfl rfl Try.func36 (by kernel_rfl) rfl #[.agg #[.int .i64 a1_0, .slice A1_1 l1_1.length c1_1]] rfl tL ?_; (with_reducible refine (laws_toMatrix.calls k a1_0 _ _ l1_1 t851 t852 _ ?s1 ?s2 A17.out).mono ?_); (case s1 => exact tC ((Kd.C_below HR1_1.out HB.out))); (case s2 => exact HC1_1.out); rintro e w32 ⟨v853, rfl, ho0, hb⟩; refine ⟨_, rfl, ?_⟩; have GHX := Aq.mk (show ∀ k_, (v853 : Value).ownBlock = some k_ → w30.heap.size ≤ k_ from fun k_ e_ => Nat.le_trans (bQZ (by repeat (first | (with_reducible first | exact GB4.out | apply bQA | apply bQN | apply bQ1) | exact GB4.out))) (Kd.R_base ho0 k_ e_)); have n0_ := Aq.mk (Kd.S_elder' (by (with_reducible repeat (first | apply Kd.S_alloc | apply Kd.S_drewN | apply Kd.S_drew)); exact HO838.out) (Kd.R_base ho0) hb); have n1_ := Aq.mk (Kd.R_elder' (tR HO842.out) (Kd.R_base ho0) hb); have n2_ := Aq.mk (Kd.R_elder' (tR HO846.out) (Kd.R_base ho0) hb); have n3_ := Aq.mk (Kd.S_elder' (by (with_reducible repeat (first | apply Kd.S_alloc | apply Kd.S_drewN | apply Kd.S_drew)); exact HO850.out) (Kd.R_base ho0) hb); have n4_ := Aq.mk (Kd.R_lower (Kd.R_new' (Kd.R_new' ho0 (Kd.R_lt (tR HO842.out))) (Kd.R_lt (tR HO846.out))) (bQZ tB)); have n5_ := Aq.mk (tQ BK833.out hb); have n6_ := Aq.mk (bQT tB hb); have gq_ := Aq.mk (bQT (by repeat (first | (with_reducible first | exact GB4.out | apply bQA | apply bQN | apply bQ1) | exact GB4.out)) hb); clear GB4; have GB4 := gq_; clear gq_; clear HO838; clear HO842; clear HO846; clear HO850; clear BK833; clear HB; have HO838 := n0_; have HO842 := n1_; have HO846 := n2_; have HO850 := n3_; have HO854 := n4_; have BK833 := n5_; have HB := n6_; clear n0_ n1_ n2_ n3_ n4_ n5_ n6_; (try clear hb); (try clear hb2); (try clear hk); (try clear hi); (try clear ho0)) | ((with_reducible refine gQd (N := 10) rfl ?_); refine xQe ?hg (N := 10) ?hd (cs := #[.int .i64 0, .slice none 0 0]) (t := 63) ?hr ?_; (case hd => rfl); (case hg => rfl); (case hr => exact tH); intro gb855 hg w33 hbox hb; have n0_ := Aq.mk (Kd.S_below (Kd.S_elderB (by (with_reducible repeat (first | apply Kd.S_alloc | apply Kd.S_drewN | apply Kd.S_drew)); exact HO838.out) gb855 (Nat.le_of_eq hg.symm)) hb); have n1_ := Aq.mk (Kd.R_below (tR HO842.out) hb); have n2_ := Aq.mk (Kd.R_below (tR HO846.out) hb); have n3_ := Aq.mk (Kd.S_below (Kd.S_elderB (by (with_reducible repeat (first | apply Kd.S_alloc | apply Kd.S_drewN | apply Kd.S_drew)); exact HO850.out) gb855 (Nat.le_of_eq hg.symm)) hb); have n4_ := Aq.mk (Kd.R_below (tR HO854.out) hb); have n5_ := Aq.mk (tQ BK833.out hb); have n6_ := Aq.mk (bQT tB hb); have G855 := Aq.mk ((by rw [hg]; exact (bQZ (by repeat (first | (with_reducible first | exact GB4.out | apply bQA | apply bQN | apply bQ1) | exact GB4.out)))) : w30.heap.size ≤ gb855); have gq_ := Aq.mk (bQT (by repeat (first | (with_reducible first | exact GB4.out | apply bQA | apply bQN | apply bQ1) | exact GB4.out)) hb); clear GB4; have GB4 := gq_; clear gq_; have n7_ := Aq.mk (hbox); have n8_ := Aq.mk (tZ w hg); have n9_ := Aq.mk (tZ w hg); have n10_ := Aq.mk ((by rw [hg]; exact Nat.ne_of_lt (blk_lt (g := gb833) (o := .cells #[.int .i64 a1_0, .slice A1_1 l1_1.length c1_1] 59 (0, 0)) (tG BK833.out)) : gb833 ≠ gb855)); have n11_ := Aq.mk ((by rw [hg]; exact Nat.ne_of_gt (blk_lt (g := gb833) (o := .cells #[.int .i64 a1_0, .slice A1_1 l1_1.length c1_1] 59 (0, 0)) (tG BK833.out)) : gb855 ≠ gb833)); clear HO838; clear HO842; clear HO846; clear HO850; clear HO854; clear BK833; clear HB; have HO838 := n0_; have HO842 := n1_; have HO846 := n2_; have HO850 := n3_; have HO854 := n4_; have BK833 := n5_; have HB := n6_; have BK855 := n7_; have GW855 := n8_; have GE855 := n9_; have NB833_855 := n10_; have NB855_833 := n11_; clear n0_ n1_ n2_ n3_ n4_ n5_ n6_ n7_ n8_ n9_ n10_ n11_; clear hb hbox hg; have hnb34 := NB855_833.out; have hnc34 := NB833_855.out; have hcz35_0 : w33.cell? ⟨gb855, 0, none⟩ = some (.int .i64 0) := (kQC BK855.out 0).trans rfl; have hcz35_1 : w33.cell? ⟨gb855, 1, none⟩ = some (.slice none 0 0) := (kQC BK855.out 1).trans rfl; have hfz35_0 := kQF BK855.out 0; have hfz35_1 := kQF BK855.out 1; obtain ⟨Ao36, co36, eo36⟩ := Kd.R_slice HO854.out; subst eo36; obtain ⟨Ao37, co37, eo37⟩ := Kd.S_slice HO850.out; subst eo37) | ((with_reducible refine gQc (f := 37) rfl ?_); refine goesL_ (some 46) rfl rfl Try.func37 (by kernel_rfl) rfl #[.slice Ao37 t848.length co37, .agg #[.int .i64 t851, .slice Ao36 t852.length co36]] rfl tL ?_; (with_reducible refine (impl_NearestSpaces.calls k _ _ t848 t851 _ _ t852 t856 t857 t860 _ ?s1 ?s2 ?s3 ?s4 A18.out).mono ?_); (case s1 => refine (Kd.S_reads' (e := 63) (base := w.heap.size) (ok := fun k_ => (((((True ∧ some k_ ≠ (.slice Ao27 t836.length co27 : Value).ownBlock) ∧ some k_ ≠ (.slice Ao28 t840.length co28 : Value).ownBlock) ∧ some k_ ≠ (v845 : Value).ownBlock) ∧ some k_ ≠ (.slice Ao36 t852.length co36 : Value).ownBlock) ∧ k_ ≠ gb855)) (n := t848.length) (c := co37) ?_).2.2; exact (by (with_reducible repeat (first | apply Kd.S_alloc | apply Kd.S_drewN | apply Kd.S_drew)); exact (Kd.S_mono (Kd.S_far (p := ⟨gb855, 1, none⟩) (Kd.S_far (p := ⟨gb855, 0, none⟩) (Kd.S_mono HO850.out (fun k_ hk => (⟨hk, hk.2⟩ : _ ∧ k_ ≠ gb855))) (fun _ hk => hk.2) (.int .i64 t851)) (fun _ hk => hk.2) (.slice Ao36 t852.length co36)) (fun _ h_ => h_.1)))); (case s2 => exact (Kd.S_reads' HO850.out).2.1); (case s3 => refine (Kd.R_reads' (e := 2) (base := w.heap.size) (ok := fun k_ => ((True ∧ some k_ ≠ (.slice Ao28 t840.length co28 : Value).ownBlock) ∧ some k_ ≠ (v845 : Value).ownBlock)) (n := t852.length) (c := co36) ?_).2.2; exact (by (with_reducible repeat (first | apply Kd.RqA | apply Kd.RqN | apply Kd.RqD)); exact (Kd.R_mono (Kd.R_far (p := ⟨gb855, 1, none⟩) (Kd.R_far (p := ⟨gb855, 0, none⟩) (Kd.R_types HO854.out BK855.out (by decide)) (fun _ hk => hk.2) (.int .i64 t851)) (fun _ hk => hk.2) (.slice Ao36 t852.length co36)) (fun _ h_ => h_.1)))); (case s4 => exact (Kd.R_reads' HO854.out).2.1); rintro e w38 ⟨v858, rfl, ho0, hb⟩; refine ⟨_, rfl, ?_⟩; have GH9 := Aq.mk (show ∀ k_, (v858 : Value).ownBlock = some k_ → w30.heap.size ≤ k_ from fun k_ e_ => Nat.le_trans (bQZ (by repeat (first | (with_reducible first | exact GB4.out | apply bQA | apply bQN | apply bQ1 | refine bQS ?_ G855.out) | exact GB4.out))) (Kd.R_base ho0 k_ e_)); have n0_ := Aq.mk (Kd.S_elder' (by (with_reducible repeat (first | apply Kd.S_alloc | apply Kd.S_drewN | apply Kd.S_drew)); exact (Kd.S_mono (Kd.S_far (p := ⟨gb855, 1, none⟩) (Kd.S_far (p := ⟨gb855, 0, none⟩) (Kd.S_mono HO838.out (fun k_ hk => (⟨hk, hk.2⟩ : _ ∧ k_ ≠ gb855))) (fun _ hk => hk.2) (.int .i64 t851)) (fun _ hk => hk.2) (.slice Ao36 t852.length co36)) (fun _ h_ => h_.1))) (Kd.R_base ho0) hb); have n1_ := Aq.mk (Kd.R_elder' (by (with_reducible repeat (first | apply Kd.RqA | apply Kd.RqN | apply Kd.RqD)); exact (Kd.R_mono (Kd.R_far (p := ⟨gb855, 1, none⟩) (Kd.R_far (p := ⟨gb855, 0, none⟩) (Kd.R_types HO842.out BK855.out (by decide)) (fun _ hk => hk.2) (.int .i64 t851)) (fun _ hk => hk.2) (.slice Ao36 t852.length co36)) (fun _ h_ => h_.1))) (Kd.R_base ho0) hb); have n2_ := Aq.mk (Kd.R_elder' (by (with_reducible repeat (first | apply Kd.RqA | apply Kd.RqN | apply Kd.RqD)); exact (Kd.R_mono (Kd.R_far (p := ⟨gb855, 1, none⟩) (Kd.R_far (p := ⟨gb855, 0, none⟩) (Kd.R_types HO846.out BK855.out (by decide)) (fun _ hk => hk.2) (.int .i64 t851)) (fun _ hk => hk.2) (.slice Ao36 t852.length co36)) (fun _ h_ => h_.1))) (Kd.R_base ho0) hb); have n3_ := Aq.mk (Kd.S_elder' (by (with_reducible repeat (first | apply Kd.S_alloc | apply Kd.S_drewN | apply Kd.S_drew)); exact (Kd.S_mono (Kd.S_far (p := ⟨gb855, 1, none⟩) (Kd.S_far (p := ⟨gb855, 0, none⟩) (Kd.S_mono HO850.out (fun k_ hk => (⟨hk, hk.2⟩ : _ ∧ k_ ≠ gb855))) (fun _ hk => hk.2) (.int .i64 t851)) (fun _ hk => hk.2) (.slice Ao36 t852.length co36)) (fun _ h_ => h_.1))) (Kd.R_base ho0) hb); have n4_ := Aq.mk (Kd.R_elder' (by (with_reducible repeat (first | apply Kd.RqA | apply Kd.RqN | apply Kd.RqD)); exact (Kd.R_mono (Kd.R_far (p := ⟨gb855, 1, none⟩) (Kd.R_far (p := ⟨gb855, 0, none⟩) (Kd.R_types HO854.out BK855.out (by decide)) (fun _ hk => hk.2) (.int .i64 t851)) (fun _ hk => hk.2) (.slice Ao36 t852.length co36)) (fun _ h_ => h_.1))) (Kd.R_base ho0) hb); have n5_ := Aq.mk (Kd.R_lower (Kd.R_new' (Kd.R_new' (Kd.R_new' ho0 (Kd.R_lt (by (with_reducible repeat (first | apply Kd.RqA | apply Kd.RqN | apply Kd.RqD)); exact (Kd.R_mono (Kd.R_far (p := ⟨gb855, 1, none⟩) (Kd.R_far (p := ⟨gb855, 0, none⟩) (Kd.R_types HO842.out BK855.out (by decide)) (fun _ hk => hk.2) (.int .i64 t851)) (fun _ hk => hk.2) (.slice Ao36 t852.length co36)) (fun _ h_ => h_.1))))) (Kd.R_lt (by (with_reducible repeat (first | apply Kd.RqA | apply Kd.RqN | apply Kd.RqD)); exact (Kd.R_mono (Kd.R_far (p := ⟨gb855, 1, none⟩) (Kd.R_far (p := ⟨gb855, 0, none⟩) (Kd.R_types HO846.out BK855.out (by decide)) (fun _ hk => hk.2) (.int .i64 t851)) (fun _ hk => hk.2) (.slice Ao36 t852.length co36)) (fun _ h_ => h_.1))))) (Kd.R_lt (by (with_reducible repeat (first | apply Kd.RqA | apply Kd.RqN | apply Kd.RqD)); exact (Kd.R_mono (Kd.R_far (p := ⟨gb855, 1, none⟩) (Kd.R_far (p := ⟨gb855, 0, none⟩) (Kd.R_types HO854.out BK855.out (by decide)) (fun _ hk => hk.2) (.int .i64 t851)) (fun _ hk => hk.2) (.slice Ao36 t852.length co36)) (fun _ h_ => h_.1))))) (bQZ tB)); have n6_ := Aq.mk (kQB (g := gb833) (o := .cells #[.int .i64 a1_0, .slice A1_1 l1_1.length c1_1] 59 (0, 0)) (by (with_reducible repeat (first | refine kQN ?_ _ | refine kQD ?_ | refine kQA ?_ _)); refine kQR ?_ NB833_855.out _; (with_reducible repeat (first | refine kQN ?_ _ | refine kQD ?_ | refine kQA ?_ _)); refine kQR ?_ NB833_855.out _; (with_reducible repeat (first | refine kQN ?_ _ | refine kQD ?_ | refine kQA ?_ _)); exact BK833.out) hb); have n7_ := Aq.mk (kQB (g := gb855) (o := .cells #[.int .i64 t851, .slice Ao36 t852.length co36] 63 (0, 0)) (by (with_reducible repeat (first | refine kQN ?_ _ | refine kQD ?_ | refine kQA ?_ _)); refine kQP (cs := #[.int .i64 t851, .slice none 0 0]) ?_ 1 _ rfl; (with_reducible repeat (first | refine kQN ?_ _ | refine kQD ?_ | refine kQA ?_ _)); refine kQP (cs := #[.int .i64 0, .slice none 0 0]) ?_ 0 _ rfl; (with_reducible repeat (first | refine kQN ?_ _ | refine kQD ?_ | refine kQA ?_ _)); exact BK855.out) hb); have n8_ := Aq.mk (bQT tB hb); have gq_ := Aq.mk (bQT (by repeat (first | (with_reducible first | exact GB4.out | apply bQA | apply bQN | apply bQ1 | refine bQS ?_ G855.out) | exact GB4.out)) hb); clear GB4; have GB4 := gq_; clear gq_; clear HO838; clear HO842; clear HO846; clear HO850; clear HO854; clear BK833; clear BK855; clear HB; have HO838 := n0_; have HO842 := n1_; have HO846 := n2_; have HO850 := n3_; have HO854 := n4_; have HO859 := n5_; have BK833 := n6_; have BK855 := n7_; have HB := n8_; clear n0_ n1_ n2_ n3_ n4_ n5_ n6_ n7_ n8_; (try clear hb); (try clear hb2); (try clear hk); (try clear hi); (try clear ho0)))
 (try simp only [Act.put, qSa, qSb, qSc])
 go_cut [63] (fun v63 wc => ∃ (kq : Nat) (x63_18 : Bool), v63 = .bool x63_18 ∧ Aq (laws_FnExactNearestSpaces.j0 kq l0 t843 t844 t847 t848 t856 t857 t860 x63_18 a1_0 l1_1 t851 t852 = some r) ∧ Aq (kq ≤ k) ∧ Aq (Kd.R (Kd.int .i64) 2 wc w.heap.size (fun k_ => some k_ ≠ (v858 : Value).ownBlock ∧ some k_ ≠ ((.slice Ao36 t852.length co36) : Value).ownBlock) v845 t844) ∧ Aq (Kd.S k63 63 wc w.heap.size (fun k_ => some k_ ≠ (v845 : Value).ownBlock ∧ some k_ ≠ (v858 : Value).ownBlock ∧ some k_ ≠ ((.slice Ao36 t852.length co36) : Value).ownBlock ∧ k_ ≠ gb855) (.slice Ao37 t848.length co37) t848) ∧ Aq (Kd.R (Kd.int .i64) 2 wc w.heap.size (fun k_ => some k_ ≠ (v845 : Value).ownBlock ∧ some k_ ≠ ((.slice Ao36 t852.length co36) : Value).ownBlock) v858 t857) ∧ Aq (Kd.R (Kd.int .i64) 2 wc w.heap.size (fun k_ => some k_ ≠ (v845 : Value).ownBlock ∧ some k_ ≠ (v858 : Value).ownBlock) (.slice Ao36 t852.length co36) t852) ∧ Aq (wc.heap[gb833]? = some (.cells #[.int .i64 a1_0, (.slice A1_1 l1_1.length c1_1)] 59 (0, 0))) ∧ Aq (wc.heap[gb855]? = some (.cells #[.int .i64 t851, (.slice Ao36 t852.length co36)] 63 (0, 0))) ∧ Aq (Below w.heap.size w wc) ∧ Aq (Below w30.heap.size w30 wc))
 case first =>
  have H := HC19.out
  clear HC19
  by_cases c39 : t856 = t843
  rotate_left
  ·rw [if_neg c39] at H
   have c39b0 := beq_eq_false_iff_ne.mpr c39
   have c39b1 := bne_iff_ne.mpr c39
   (first | rw [c39b0] | (simp only [i64_w, i32_w]; rw [c39b0]) | skip)
   replace H' := Aq.mk H
   clear H
   go_wp2
   go_meet
   case rel => exact ⟨_, (true), tS, H', ⟨tO⟩, ⟨by (with_reducible repeat (first | apply Kd.RqA | apply Kd.RqN | apply Kd.RqD)); exact Kd.R_mono HO846.out (fun _ hk => ⟨hk.2, hk.1.2⟩)⟩, ⟨by (with_reducible repeat (first | apply Kd.S_alloc | apply Kd.S_drewN | apply Kd.S_drew)); exact Kd.S_mono HO850.out (fun _ hk => ⟨hk.1.1.1.2, ⟨hk.2, ⟨hk.1.1.2, hk.1.2⟩⟩⟩)⟩, ⟨by (with_reducible repeat (first | apply Kd.RqA | apply Kd.RqN | apply Kd.RqD)); exact Kd.R_mono HO859.out (fun _ hk => ⟨hk.1.2, hk.2⟩)⟩, ⟨by (with_reducible repeat (first | apply Kd.RqA | apply Kd.RqN | apply Kd.RqD)); exact Kd.R_mono HO854.out (fun _ hk => ⟨hk.1.2, hk.2⟩)⟩, ⟨tG BK833.out⟩, ⟨tG BK855.out⟩, ⟨tB⟩, ⟨(by repeat (first | (with_reducible first | exact GB4.out | apply bQA | apply bQN | apply bQ1 | refine bQS ?_ G855.out) | exact GB4.out))⟩⟩
  rw [if_pos c39] at H
  have c39b0 := beq_iff_eq.mpr c39
  have c39b1 := bne_eq_false_iff_eq.mpr c39
  clear c39
  (first | rw [c39b0] | (simp only [i64_w, i32_w]; rw [c39b0]) | skip)
  obtain ⟨t861, A40, H⟩ := qBd H
  by_cases c41 : t861 = true
  ·subst c41
   rw [if_pos rfl] at H
   replace H' := Aq.mk H
   clear H
   obtain ⟨Ao42, co42, eo42⟩ := Kd.R_slice HO859.out
   subst eo42
   obtain ⟨Ao43, co43, eo43⟩ := Kd.R_slice HO846.out
   subst eo43
   go_wp2_with (first | (go_at_call 22; (with_reducible refine (laws_eqInt64S.calls k _ _ t857 _ _ t844 true _ ?s1 ?s2 ?s3 ?s4 A40.out).mono ?_); (case s1 => exact tC ((Kd.R_reads' HO859.out).2.2)); (case s2 => exact (Kd.R_reads' HO859.out).2.1); (case s3 => exact tC ((Kd.R_reads' HO846.out).2.2)); (case s4 => exact (Kd.R_reads' HO846.out).2.1); rintro e w' ⟨rfl, ⟨nd, rfl⟩⟩))
   go_meet
   case rel => exact ⟨_, ((t860 != t847)), tS, H', ⟨tO⟩, ⟨by (with_reducible repeat (first | apply Kd.RqA | apply Kd.RqN | apply Kd.RqD)); exact Kd.R_mono HO846.out (fun _ hk => ⟨hk.2, hk.1.2⟩)⟩, ⟨by (with_reducible repeat (first | apply Kd.S_alloc | apply Kd.S_drewN | apply Kd.S_drew)); exact Kd.S_mono HO850.out (fun _ hk => ⟨hk.1.1.1.2, ⟨hk.2, ⟨hk.1.1.2, hk.1.2⟩⟩⟩)⟩, ⟨by (with_reducible repeat (first | apply Kd.RqA | apply Kd.RqN | apply Kd.RqD)); exact Kd.R_mono HO859.out (fun _ hk => ⟨hk.1.2, hk.2⟩)⟩, ⟨by (with_reducible repeat (first | apply Kd.RqA | apply Kd.RqN | apply Kd.RqD)); exact Kd.R_mono HO854.out (fun _ hk => ⟨hk.1.2, hk.2⟩)⟩, ⟨tG BK833.out⟩, ⟨tG BK855.out⟩, ⟨tB⟩, ⟨(by repeat (first | (with_reducible first | exact GB4.out | apply bQA | apply bQN | apply bQ1 | refine bQS ?_ G855.out) | exact GB4.out))⟩⟩
  replace c41 := Bool.eq_false_iff.mpr c41
  subst c41
  rw [if_neg (show ¬ (false = true) by decide)] at H
  replace H' := Aq.mk H
  clear H
  obtain ⟨Ao44, co44, eo44⟩ := Kd.R_slice HO859.out
  subst eo44
  obtain ⟨Ao45, co45, eo45⟩ := Kd.R_slice HO846.out
  subst eo45
  go_wp2_with (first | (go_at_call 22; (with_reducible refine (laws_eqInt64S.calls k _ _ t857 _ _ t844 false _ ?s1 ?s2 ?s3 ?s4 A40.out).mono ?_); (case s1 => exact tC ((Kd.R_reads' HO859.out).2.2)); (case s2 => exact (Kd.R_reads' HO859.out).2.1); (case s3 => exact tC ((Kd.R_reads' HO846.out).2.2)); (case s4 => exact (Kd.R_reads' HO846.out).2.1); rintro e w' ⟨rfl, ⟨nd, rfl⟩⟩))
  go_meet
  case rel => exact ⟨_, (true), tS, H', ⟨tO⟩, ⟨by (with_reducible repeat (first | apply Kd.RqA | apply Kd.RqN | apply Kd.RqD)); exact Kd.R_mono HO846.out (fun _ hk => ⟨hk.2, hk.1.2⟩)⟩, ⟨by (with_reducible repeat (first | apply Kd.S_alloc | apply Kd.S_drewN | apply Kd.S_drew)); exact Kd.S_mono HO850.out (fun _ hk => ⟨hk.1.1.1.2, ⟨hk.2, ⟨hk.1.1.2, hk.1.2⟩⟩⟩)⟩, ⟨by (with_reducible repeat (first | apply Kd.RqA | apply Kd.RqN | apply Kd.RqD)); exact Kd.R_mono HO859.out (fun _ hk => ⟨hk.1.2, hk.2⟩)⟩, ⟨by (with_reducible repeat (first | apply Kd.RqA | apply Kd.RqN | apply Kd.RqD)); exact Kd.R_mono HO854.out (fun _ hk => ⟨hk.1.2, hk.2⟩)⟩, ⟨tG BK833.out⟩, ⟨tG BK855.out⟩, ⟨tB⟩, ⟨(by repeat (first | (with_reducible first | exact GB4.out | apply bQA | apply bQN | apply bQ1 | refine bQS ?_ G855.out) | exact GB4.out))⟩⟩
 clear HC19
 try clear c4
 try clear c4b0
 try clear c8
 try clear c8b0
 try clear c39
 try clear c39b0
 try clear c39b1
 try clear c41
 try clear hcz11_0
 try clear hcz11_1
 try clear hcz22_0
 try clear hcz22_1
 try clear hcz31_0
 try clear hcz31_1
 try clear hcz35_0
 try clear hcz35_1
 try clear hfz11_0
 try clear hfz11_1
 try clear hfz22_0
 try clear hfz22_1
 try clear hfz31_0
 try clear hfz31_1
 try clear hfz35_0
 try clear hfz35_1
 obtain ⟨kq, x63_18, rfl, HA, HJ18, HO_7, HO_9, HO_12, HO_856001, BK833, BK855, HB, GB4⟩ := hcut
 cases kq with
 | zero => exact absurd HA.out (by simp [laws_FnExactNearestSpaces.j0])
 | succ kj18 =>
  have H := HA.out
  clear HA
  simp only [laws_FnExactNearestSpaces.j0] at H
  by_cases c46 : x63_18 = true
  ·subst c46
   rw [if_pos rfl] at H
   obtain rfl := Option.some.inj H
   go_wp2
   go_ret
   exact ⟨tE, tB⟩
  replace c46 := Bool.eq_false_iff.mpr c46
  subst c46
  rw [if_neg (show ¬ (false = true) by decide)] at H
  obtain ⟨t862, A47, H⟩ := qBd H
  obtain ⟨t865, A48, H⟩ := qBd H
  by_cases c49 : t865 = true
  rotate_left
  ·replace c49 := Bool.eq_false_iff.mpr c49
   subst c49
   rw [if_neg (show ¬ (false = true) by decide)] at H
   obtain rfl := Option.some.inj H
   go_wp2_with (first | ((with_reducible refine gQc (f := 29) rfl ?_); refine goesL_ (some 66) rfl rfl Try.func29 (by kernel_rfl) rfl #[.slice A0 l0.length c0] rfl tL ?_; (with_reducible refine (laws_toMatrixS.calls kj18 _ _ l0 t862 _ ?s1 ?s2 A47.out).mono ?_); (case s1 => exact tC ((Kd.C_below HR0.out HB.out))); (case s2 => exact HC0.out); rintro e w114 ⟨v863, rfl, ho0, hb⟩; refine ⟨_, rfl, ?_⟩; refine qM8 (Kd.R_below (tR HO_7.out) hb) (Kd.S_elder' (by (with_reducible repeat (first | apply Kd.S_alloc | apply Kd.S_drewN | apply Kd.S_drew)); exact HO_9.out) (Kd.S_base ho0) hb) (Kd.R_below (tR HO_12.out) hb) (Kd.R_below (tR HO_856001.out) hb) (Kd.S_lower (Kd.S_newB (Kd.S_new' (Kd.S_new' (Kd.S_new' (Kd.S_new' ho0 (Kd.R_lt (tR HO_7.out))) (Kd.S_lt (by (with_reducible repeat (first | apply Kd.S_alloc | apply Kd.S_drewN | apply Kd.S_drew)); exact HO_9.out))) (Kd.R_lt (tR HO_12.out))) (Kd.R_lt (tR HO_856001.out))) (g := gb855) (o := .cells #[.int .i64 t851, .slice Ao36 t852.length co36] 63 (0, 0)) (tG BK855.out)) (bQZ tB)) (tQ BK833.out hb) (tQ BK855.out hb) (bQT tB hb) ?_; clear HO_7 HO_9 HO_12 HO_856001 BK833 BK855 HB; intro HO_7 HO_9 HO_12 HO_856001 HO864 BK833 BK855 HB; (try clear hb); (try clear hb2); (try clear hk); (try clear hi); (try clear ho0); obtain ⟨Ao115, co115, eo115⟩ := Kd.S_slice HO864.out; subst eo115) | ((with_reducible refine gQc (f := 31) rfl ?_); refine goesL_ (some 67) rfl rfl Try.func31 (by kernel_rfl) rfl #[.slice Ao37 t848.length co37, .slice Ao115 t862.length co115] rfl tL ?_; (with_reducible refine (laws_eqMatrixS.calls kj18 _ _ t848 _ _ t862 false _ ?s1 ?s2 ?s3 ?s4 A48.out).mono ?_); (case s1 => exact tC ((Kd.S_reads' HO_9.out).2.2)); (case s2 => exact (Kd.S_reads' HO_9.out).2.1); (case s3 => exact tC ((Kd.S_reads' HO864.out).2.2)); (case s4 => exact (Kd.S_reads' HO864.out).2.1); rintro e w116 ⟨rfl, hb⟩; refine ⟨_, rfl, ?_⟩; refine qM8 (Kd.R_below (tR HO_7.out) hb) (Kd.S_below (by (with_reducible repeat (first | apply Kd.S_alloc | apply Kd.S_drewN | apply Kd.S_drew)); exact HO_9.out) hb) (Kd.R_below (tR HO_12.out) hb) (Kd.R_below (tR HO_856001.out) hb) (Kd.S_below (by (with_reducible repeat (first | apply Kd.S_alloc | apply Kd.S_drewN | apply Kd.S_drew)); exact HO864.out) hb) (tQ BK833.out hb) (tQ BK855.out hb) (bQT tB hb) ?_; clear HO_7 HO_9 HO_12 HO_856001 HO864 BK833 BK855 HB; intro HO_7 HO_9 HO_12 HO_856001 HO864 BK833 BK855 HB; (try clear hb); (try clear hb2); (try clear hk); (try clear hi)))
   go_ret
   exact ⟨tE, tB⟩
  subst c49
  rw [if_pos rfl] at H
  obtain ⟨⟨t866, t867⟩, A50, H⟩ := qBd H
  (try dsimp only at H)
  obtain ⟨t870, A51, H⟩ := qBd H
  by_cases c52 : t870 = true
  rotate_left
  ·replace c52 := Bool.eq_false_iff.mpr c52
   subst c52
   rw [if_neg (show ¬ (false = true) by decide)] at H
   obtain rfl := Option.some.inj H
   try go_wp2_with (first | ((with_reducible refine gQc (f := 29) rfl ?_); refine goesL_ (some 66) rfl rfl Try.func29 (by kernel_rfl) rfl #[.slice A0 l0.length c0] rfl tL ?_; (with_reducible refine (laws_toMatrixS.calls kj18 _ _ l0 t862 _ ?s1 ?s2 A47.out).mono ?_); (case s1 => exact tC ((Kd.C_below HR0.out HB.out))); (case s2 => exact HC0.out); rintro e w107 ⟨v863, rfl, ho0, hb⟩; refine ⟨_, rfl, ?_⟩; refine qM8 (Kd.R_below (tR HO_7.out) hb) (Kd.S_elder' (by (with_reducible repeat (first | apply Kd.S_alloc | apply Kd.S_drewN | apply Kd.S_drew)); exact HO_9.out) (Kd.S_base ho0) hb) (Kd.R_below (tR HO_12.out) hb) (Kd.R_below (tR HO_856001.out) hb) (Kd.S_lower (Kd.S_newB (Kd.S_new' (Kd.S_new' (Kd.S_new' (Kd.S_new' ho0 (Kd.R_lt (tR HO_7.out))) (Kd.S_lt (by (with_reducible repeat (first | apply Kd.S_alloc | apply Kd.S_drewN | apply Kd.S_drew)); exact HO_9.out))) (Kd.R_lt (tR HO_12.out))) (Kd.R_lt (tR HO_856001.out))) (g := gb855) (o := .cells #[.int .i64 t851, .slice Ao36 t852.length co36] 63 (0, 0)) (tG BK855.out)) (bQZ tB)) (tQ BK833.out hb) (tQ BK855.out hb) (bQT tB hb) ?_; clear HO_7 HO_9 HO_12 HO_856001 BK833 BK855 HB; intro HO_7 HO_9 HO_12 HO_856001 HO864 BK833 BK855 HB; (try clear hb); (try clear hb2); (try clear hk); (try clear hi); (try clear ho0); obtain ⟨Ao108, co108, eo108⟩ := Kd.S_slice HO864.out; subst eo108) | ((with_reducible refine gQc (f := 31) rfl ?_); refine goesL_ (some 67) rfl rfl Try.func31 (by kernel_rfl) rfl #[.slice Ao37 t848.length co37, .slice Ao108 t862.length co108] rfl tL ?_; (with_reducible refine (laws_eqMatrixS.calls kj18 _ _ t848 _ _ t862 true _ ?s1 ?s2 ?s3 ?s4 A48.out).mono ?_); (case s1 => exact tC ((Kd.S_reads' HO_9.out).2.2)); (case s2 => exact (Kd.S_reads' HO_9.out).2.1); (case s3 => exact tC ((Kd.S_reads' HO864.out).2.2)); (case s4 => exact (Kd.S_reads' HO864.out).2.1); rintro e w109 ⟨rfl, hb⟩; refine ⟨_, rfl, ?_⟩; refine qM8 (Kd.R_below (tR HO_7.out) hb) (Kd.S_below (by (with_reducible repeat (first | apply Kd.S_alloc | apply Kd.S_drewN | apply Kd.S_drew)); exact HO_9.out) hb) (Kd.R_below (tR HO_12.out) hb) (Kd.R_below (tR HO_856001.out) hb) (Kd.S_below (by (with_reducible repeat (first | apply Kd.S_alloc | apply Kd.S_drewN | apply Kd.S_drew)); exact HO864.out) hb) (tQ BK833.out hb) (tQ BK855.out hb) (bQT tB hb) ?_; clear HO_7 HO_9 HO_12 HO_856001 HO864 BK833 BK855 HB; intro HO_7 HO_9 HO_12 HO_856001 HO864 BK833 BK855 HB; (try clear hb); (try clear hb2); (try clear hk); (try clear hi)))
   have n0_ := Aq.mk (Kd.RqD HO_7.out)
   have n1_ := Aq.mk (Kd.S_drew HO_9.out)
   have n2_ := Aq.mk (Kd.RqD HO_12.out)
   have n3_ := Aq.mk (Kd.RqD HO_856001.out)
   have n4_ := Aq.mk (Kd.S_drew HO864.out)
   have n5_ := Aq.mk (kQD BK833.out)
   have n6_ := Aq.mk (kQD BK855.out)
   have n7_ := Aq.mk (bQ1 HB.out)
   clear HO_7
   clear HO_9
   clear HO_12
   clear HO_856001
   clear HO864
   clear BK833
   clear BK855
   clear HB
   have HO_7 := n0_
   have HO_9 := n1_
   have HO_12 := n2_
   have HO_856001 := n3_
   have HO864 := n4_
   have BK833 := n5_
   have BK855 := n6_
   have HB := n7_
   clear n0_ n1_ n2_ n3_ n4_ n5_ n6_ n7_
   refine start_ (n := 5) (S := fun w' => w'.cell? ⟨gb855, 0, none⟩ = some (.int .i64 t851) ∧ w'.cell? ⟨gb855, 1, none⟩ = some (.slice Ao36 t852.length co36) ∧ w'.cell? ⟨gb833, 0, none⟩ = some (.int .i64 a1_0) ∧ w'.cell? ⟨gb833, 1, none⟩ = some (.slice A1_1 l1_1.length c1_1)) (ds := []) #[false, false, false, false, false] (by kernel_rfl) rfl rfl ⟨(kQC BK855.out 0).trans rfl, (kQC BK855.out 1).trans rfl, (kQC BK833.out 0).trans rfl, (kQC BK833.out 1).trans rfl⟩ (fun hHeld => ?_)
   generalize w109.drew = w110 at HO_7 HO_9 HO_12 HO_856001 HO864 BK833 BK855 HB hHeld ⊢
   refine tT4k 0 69 (bm 5 1) ?_
   refine tT4k 1 70 (bm 5 3) ?_
   refine one_ (i := 2) (N := some 71) (bm 5 7) rfl rfl (by kernel_rfl) (by decide) (fun K hK => ?_)
   refine goes_ Try.func36 (by kernel_rfl) rfl #[.agg #[.int .i64 a1_0, .slice A1_1 l1_1.length c1_1]] (by rfl) rfl rfl tL ?_
   with_reducible refine (laws_toMatrix.calls kj18 a1_0 _ _ l1_1 t866 t867 _ ?s1 ?s2 A50.out).mono ?_
   (case s1 => exact tC ((Kd.C_below HR1_1.out HB.out)))
   (case s2 => exact HC1_1.out)
   rintro e w111 ⟨v868, rfl, ho0, hb⟩
   refine ⟨_, rfl, ?_⟩
   have n0_ := Aq.mk (Kd.R_elder' (tR HO_7.out) (Kd.R_base ho0) hb)
   have n1_ := Aq.mk (Kd.S_elder' (by (with_reducible repeat (first | apply Kd.S_alloc | apply Kd.S_drewN | apply Kd.S_drew)); exact HO_9.out) (Kd.R_base ho0) hb)
   have n2_ := Aq.mk (Kd.R_elder' (tR HO_12.out) (Kd.R_base ho0) hb)
   have n3_ := Aq.mk (Kd.R_elder' (tR HO_856001.out) (Kd.R_base ho0) hb)
   have n4_ := Aq.mk (Kd.S_elder' (by (with_reducible repeat (first | apply Kd.S_alloc | apply Kd.S_drewN | apply Kd.S_drew)); exact HO864.out) (Kd.R_base ho0) hb)
   have n5_ := Aq.mk (Kd.R_lower (Kd.R_new' (Kd.R_new' (Kd.R_new' ho0 (Kd.R_lt (tR HO_7.out))) (Kd.R_lt (tR HO_12.out))) (Kd.R_lt (tR HO_856001.out))) (bQZ tB))
   have n6_ := Aq.mk (tQ BK833.out hb)
   have n7_ := Aq.mk (tQ BK855.out hb)
   have n8_ := Aq.mk (bQT tB hb)
   clear HO_7
   clear HO_9
   clear HO_12
   clear HO_856001
   clear HO864
   clear BK833
   clear BK855
   clear HB
   have HO_7 := n0_
   have HO_9 := n1_
   have HO_12 := n2_
   have HO_856001 := n3_
   have HO864 := n4_
   have HO869 := n5_
   have BK833 := n6_
   have BK855 := n7_
   have HB := n8_
   clear n0_ n1_ n2_ n3_ n4_ n5_ n6_ n7_ n8_
   (try clear hb)
   (try clear hb2)
   (try clear hk)
   (try clear hi)
   (try clear ho0)
   obtain ⟨Ao112, co112, eo112⟩ := Kd.R_slice HO869.out
   (first | subst eo112 | (injection eo112 with f1_ f2_ f3_; have f4_ := f1_.symm; have f5_ := f3_.symm; clear f1_ f2_ f3_; subst f4_; subst f5_))
   refine hK.out _ _ ⟨(kQC BK855.out 0).trans rfl, (kQC BK855.out 1).trans rfl, (kQC BK833.out 0).trans rfl, (kQC BK833.out 1).trans rfl⟩ (fun hHeld => ?_)
   clear hK K
   refine tN 71 ?_
   refine one_ (i := 3) (N := some 72) (bm 5 15) rfl rfl (by kernel_rfl) (by decide) (fun K hK => ?_)
   refine goes_ Try.func38 (by kernel_rfl) rfl #[.agg #[.int .i64 t851, .slice Ao36 t852.length co36], .agg #[.int .i64 t866, .slice Ao112 t867.length co112]] (by rfl) rfl rfl tL ?_
   with_reducible refine (laws_eqMatrix.calls kj18 t851 _ _ t852 t866 _ _ t867 false _ ?s1 ?s2 ?s3 ?s4 A51.out).mono ?_
   (case s1 => exact tC ((Kd.R_reads' HO_856001.out).2.2))
   (case s2 => exact (Kd.R_reads' HO_856001.out).2.1)
   (case s3 => exact tC ((Kd.R_reads' HO869.out).2.2))
   (case s4 => exact (Kd.R_reads' HO869.out).2.1)
   rintro e w113 ⟨rfl, hb⟩
   refine ⟨_, rfl, ?_⟩
   have n0_ := Aq.mk (Kd.R_below (tR HO_7.out) hb)
   have n1_ := Aq.mk (Kd.S_below (by (with_reducible repeat (first | apply Kd.S_alloc | apply Kd.S_drewN | apply Kd.S_drew)); exact HO_9.out) hb)
   have n2_ := Aq.mk (Kd.R_below (tR HO_12.out) hb)
   have n3_ := Aq.mk (Kd.R_below (tR HO_856001.out) hb)
   have n4_ := Aq.mk (Kd.S_below (by (with_reducible repeat (first | apply Kd.S_alloc | apply Kd.S_drewN | apply Kd.S_drew)); exact HO864.out) hb)
   have n5_ := Aq.mk (Kd.R_below (tR HO869.out) hb)
   have n6_ := Aq.mk (tQ BK833.out hb)
   have n7_ := Aq.mk (tQ BK855.out hb)
   have n8_ := Aq.mk (bQT tB hb)
   clear HO_7
   clear HO_9
   clear HO_12
   clear HO_856001
   clear HO864
   clear HO869
   clear BK833
   clear BK855
   clear HB
   have HO_7 := n0_
   have HO_9 := n1_
   have HO_12 := n2_
   have HO_856001 := n3_
   have HO864 := n4_
   have HO869 := n5_
   have BK833 := n6_
   have BK855 := n7_
   have HB := n8_
   clear n0_ n1_ n2_ n3_ n4_ n5_ n6_ n7_ n8_
   (try clear hb)
   (try clear hb2)
   (try clear hk)
   (try clear hi)
   refine hK.out _ _ ⟨(kQC BK855.out 0).trans rfl, (kQC BK855.out 1).trans rfl, (kQC BK833.out 0).trans rfl, (kQC BK833.out 1).trans rfl⟩ (fun hHeld => ?_)
   clear hK K
   refine tN 72 ?_
   refine tP0k 4 73 (bm 5 31) ?_
   refine done_ (by kernel_rfl) ?_
   try go_wp2
   go_ret
   exact ⟨tE, tB⟩
  subst c52
  rw [if_pos rfl] at H
  obtain ⟨⟨t871, tm1⟩, A53, H⟩ := qBd H
  (try dsimp only at H)
  obtain ⟨⟨t872, t873⟩, A54, H⟩ := qBd H
  (try dsimp only at H)
  have HC55 := Aq.mk H
  clear H
  try go_wp2_with (first | ((with_reducible refine gQc (f := 29) rfl ?_); refine goesL_ (some 66) rfl rfl Try.func29 (by kernel_rfl) rfl #[.slice A0 l0.length c0] rfl tL ?_; (with_reducible refine (laws_toMatrixS.calls kj18 _ _ l0 t862 _ ?s1 ?s2 A47.out).mono ?_); (case s1 => exact tC ((Kd.C_below HR0.out HB.out))); (case s2 => exact HC0.out); rintro e w56 ⟨v863, rfl, ho0, hb⟩; refine ⟨_, rfl, ?_⟩; have n0_ := Aq.mk (Kd.R_below (tR HO_7.out) hb); have n1_ := Aq.mk (Kd.S_elder' (by (with_reducible repeat (first | apply Kd.S_alloc | apply Kd.S_drewN | apply Kd.S_drew)); exact HO_9.out) (Kd.S_base ho0) hb); have n2_ := Aq.mk (Kd.R_below (tR HO_12.out) hb); have n3_ := Aq.mk (Kd.R_below (tR HO_856001.out) hb); have n4_ := Aq.mk (Kd.S_lower (Kd.S_newB (Kd.S_new' (Kd.S_new' (Kd.S_new' (Kd.S_new' ho0 (Kd.R_lt (tR HO_7.out))) (Kd.S_lt (by (with_reducible repeat (first | apply Kd.S_alloc | apply Kd.S_drewN | apply Kd.S_drew)); exact HO_9.out))) (Kd.R_lt (tR HO_12.out))) (Kd.R_lt (tR HO_856001.out))) (g := gb855) (o := .cells #[.int .i64 t851, .slice Ao36 t852.length co36] 63 (0, 0)) (tG BK855.out)) (bQZ tB)); have n5_ := Aq.mk (tQ BK833.out hb); have n6_ := Aq.mk (tQ BK855.out hb); have n7_ := Aq.mk (bQT tB hb); have gq_ := Aq.mk (bQT (by repeat (first | (with_reducible first | exact GB4.out | apply bQA | apply bQN | apply bQ1 | refine bQS ?_ G855.out) | exact GB4.out)) hb); clear GB4; have GB4 := gq_; clear gq_; clear HO_7; clear HO_9; clear HO_12; clear HO_856001; clear BK833; clear BK855; clear HB; have HO_7 := n0_; have HO_9 := n1_; have HO_12 := n2_; have HO_856001 := n3_; have HO864 := n4_; have BK833 := n5_; have BK855 := n6_; have HB := n7_; clear n0_ n1_ n2_ n3_ n4_ n5_ n6_ n7_; (try clear hb); (try clear hb2); (try clear hk); (try clear hi); (try clear ho0); obtain ⟨Ao57, co57, eo57⟩ := Kd.S_slice HO864.out; subst eo57) | ((with_reducible refine gQc (f := 31) rfl ?_); refine goesL_ (some 67) rfl rfl Try.func31 (by kernel_rfl) rfl #[.slice Ao37 t848.length co37, .slice Ao57 t862.length co57] rfl tL ?_; (with_reducible refine (laws_eqMatrixS.calls kj18 _ _ t848 _ _ t862 true _ ?s1 ?s2 ?s3 ?s4 A48.out).mono ?_); (case s1 => exact tC ((Kd.S_reads' HO_9.out).2.2)); (case s2 => exact (Kd.S_reads' HO_9.out).2.1); (case s3 => exact tC ((Kd.S_reads' HO864.out).2.2)); (case s4 => exact (Kd.S_reads' HO864.out).2.1); rintro e w58 ⟨rfl, hb⟩; refine ⟨_, rfl, ?_⟩; have n0_ := Aq.mk (Kd.R_below (tR HO_7.out) hb); have n1_ := Aq.mk (Kd.S_below (by (with_reducible repeat (first | apply Kd.S_alloc | apply Kd.S_drewN | apply Kd.S_drew)); exact HO_9.out) hb); have n2_ := Aq.mk (Kd.R_below (tR HO_12.out) hb); have n3_ := Aq.mk (Kd.R_below (tR HO_856001.out) hb); have n4_ := Aq.mk (Kd.S_below (by (with_reducible repeat (first | apply Kd.S_alloc | apply Kd.S_drewN | apply Kd.S_drew)); exact HO864.out) hb); have n5_ := Aq.mk (tQ BK833.out hb); have n6_ := Aq.mk (tQ BK855.out hb); have n7_ := Aq.mk (bQT tB hb); have gq_ := Aq.mk (bQT (by repeat (first | (with_reducible first | exact GB4.out | apply bQA | apply bQN | apply bQ1 | refine bQS ?_ G855.out) | exact GB4.out)) hb); clear GB4; have GB4 := gq_; clear gq_; clear HO_7; clear HO_9; clear HO_12; clear HO_856001; clear HO864; clear BK833; clear BK855; clear HB; have HO_7 := n0_; have HO_9 := n1_; have HO_12 := n2_; have HO_856001 := n3_; have HO864 := n4_; have BK833 := n5_; have BK855 := n6_; have HB := n7_; clear n0_ n1_ n2_ n3_ n4_ n5_ n6_ n7_; (try clear hb); (try clear hb2); (try clear hk); (try clear hi)))
  have n0_ := Aq.mk (Kd.RqD HO_7.out)
  have n1_ := Aq.mk (Kd.S_drew HO_9.out)
  have n2_ := Aq.mk (Kd.RqD HO_12.out)
  have n3_ := Aq.mk (Kd.RqD HO_856001.out)
  have n4_ := Aq.mk (Kd.S_drew HO864.out)
  have n5_ := Aq.mk (kQD BK833.out)
  have n6_ := Aq.mk (kQD BK855.out)
  have n7_ := Aq.mk (bQ1 HB.out)
  have gq_ := Aq.mk (bQ1 GB4.out)
  clear GB4
  have GB4 := gq_
  clear gq_
  clear HO_7
  clear HO_9
  clear HO_12
  clear HO_856001
  clear HO864
  clear BK833
  clear BK855
  clear HB
  have HO_7 := n0_
  have HO_9 := n1_
  have HO_12 := n2_
  have HO_856001 := n3_
  have HO864 := n4_
  have BK833 := n5_
  have BK855 := n6_
  have HB := n7_
  clear n0_ n1_ n2_ n3_ n4_ n5_ n6_ n7_
  refine start_ (n := 5) (S := fun w' => w'.cell? ⟨gb855, 0, none⟩ = some (.int .i64 t851) ∧ w'.cell? ⟨gb855, 1, none⟩ = some (.slice Ao36 t852.length co36) ∧ w'.cell? ⟨gb833, 0, none⟩ = some (.int .i64 a1_0) ∧ w'.cell? ⟨gb833, 1, none⟩ = some (.slice A1_1 l1_1.length c1_1)) (ds := []) #[false, false, false, false, false] (by kernel_rfl) rfl rfl ⟨(kQC BK855.out 0).trans rfl, (kQC BK855.out 1).trans rfl, (kQC BK833.out 0).trans rfl, (kQC BK833.out 1).trans rfl⟩ (fun hHeld => ?_)
  generalize w58.drew = w59 at GB4 HO_7 HO_9 HO_12 HO_856001 HO864 BK833 BK855 HB hHeld ⊢
  refine tT4k 0 69 (bm 5 1) ?_
  refine tT4k 1 70 (bm 5 3) ?_
  refine one_ (i := 2) (N := some 71) (bm 5 7) rfl rfl (by kernel_rfl) (by decide) (fun K hK => ?_)
  refine goes_ Try.func36 (by kernel_rfl) rfl #[.agg #[.int .i64 a1_0, .slice A1_1 l1_1.length c1_1]] (by rfl) rfl rfl tL ?_
  with_reducible refine (laws_toMatrix.calls kj18 a1_0 _ _ l1_1 t866 t867 _ ?s1 ?s2 A50.out).mono ?_
  (case s1 => exact tC ((Kd.C_below HR1_1.out HB.out)))
  (case s2 => exact HC1_1.out)
  rintro e w60 ⟨v868, rfl, ho0, hb⟩
  refine ⟨_, rfl, ?_⟩
  have n0_ := Aq.mk (Kd.R_elder' (tR HO_7.out) (Kd.R_base ho0) hb)
  have n1_ := Aq.mk (Kd.S_elder' (by (with_reducible repeat (first | apply Kd.S_alloc | apply Kd.S_drewN | apply Kd.S_drew)); exact HO_9.out) (Kd.R_base ho0) hb)
  have n2_ := Aq.mk (Kd.R_elder' (tR HO_12.out) (Kd.R_base ho0) hb)
  have n3_ := Aq.mk (Kd.R_elder' (tR HO_856001.out) (Kd.R_base ho0) hb)
  have n4_ := Aq.mk (Kd.S_elder' (by (with_reducible repeat (first | apply Kd.S_alloc | apply Kd.S_drewN | apply Kd.S_drew)); exact HO864.out) (Kd.R_base ho0) hb)
  have n5_ := Aq.mk (Kd.R_lower (Kd.R_new' (Kd.R_new' (Kd.R_new' ho0 (Kd.R_lt (tR HO_7.out))) (Kd.R_lt (tR HO_12.out))) (Kd.R_lt (tR HO_856001.out))) (bQZ tB))
  have n6_ := Aq.mk (tQ BK833.out hb)
  have n7_ := Aq.mk (tQ BK855.out hb)
  have n8_ := Aq.mk (bQT tB hb)
  have gq_ := Aq.mk (bQT (by repeat (first | (with_reducible first | exact GB4.out | apply bQA | apply bQN | apply bQ1 | refine bQS ?_ G855.out) | exact GB4.out)) hb)
  clear GB4
  have GB4 := gq_
  clear gq_
  clear HO_7
  clear HO_9
  clear HO_12
  clear HO_856001
  clear HO864
  clear BK833
  clear BK855
  clear HB
  have HO_7 := n0_
  have HO_9 := n1_
  have HO_12 := n2_
  have HO_856001 := n3_
  have HO864 := n4_
  have HO869 := n5_
  have BK833 := n6_
  have BK855 := n7_
  have HB := n8_
  clear n0_ n1_ n2_ n3_ n4_ n5_ n6_ n7_ n8_
  (try clear hb)
  (try clear hb2)
  (try clear hk)
  (try clear hi)
  (try clear ho0)
  obtain ⟨Ao61, co61, eo61⟩ := Kd.R_slice HO869.out
  (first | subst eo61 | (injection eo61 with f1_ f2_ f3_; have f4_ := f1_.symm; have f5_ := f3_.symm; clear f1_ f2_ f3_; subst f4_; subst f5_))
  refine hK.out _ _ ⟨(kQC BK855.out 0).trans rfl, (kQC BK855.out 1).trans rfl, (kQC BK833.out 0).trans rfl, (kQC BK833.out 1).trans rfl⟩ (fun hHeld => ?_)
  clear hK K
  refine tN 71 ?_
  refine one_ (i := 3) (N := some 72) (bm 5 15) rfl rfl (by kernel_rfl) (by decide) (fun K hK => ?_)
  refine goes_ Try.func38 (by kernel_rfl) rfl #[.agg #[.int .i64 t851, .slice Ao36 t852.length co36], .agg #[.int .i64 t866, .slice Ao61 t867.length co61]] (by rfl) rfl rfl tL ?_
  with_reducible refine (laws_eqMatrix.calls kj18 t851 _ _ t852 t866 _ _ t867 true _ ?s1 ?s2 ?s3 ?s4 A51.out).mono ?_
  (case s1 => exact tC ((Kd.R_reads' HO_856001.out).2.2))
  (case s2 => exact (Kd.R_reads' HO_856001.out).2.1)
  (case s3 => exact tC ((Kd.R_reads' HO869.out).2.2))
  (case s4 => exact (Kd.R_reads' HO869.out).2.1)
  rintro e w62 ⟨rfl, hb⟩
  refine ⟨_, rfl, ?_⟩
  have n0_ := Aq.mk (Kd.R_below (tR HO_7.out) hb)
  have n1_ := Aq.mk (Kd.S_below (by (with_reducible repeat (first | apply Kd.S_alloc | apply Kd.S_drewN | apply Kd.S_drew)); exact HO_9.out) hb)
  have n2_ := Aq.mk (Kd.R_below (tR HO_12.out) hb)
  have n3_ := Aq.mk (Kd.R_below (tR HO_856001.out) hb)
  have n4_ := Aq.mk (Kd.S_below (by (with_reducible repeat (first | apply Kd.S_alloc | apply Kd.S_drewN | apply Kd.S_drew)); exact HO864.out) hb)
  have n5_ := Aq.mk (Kd.R_below (tR HO869.out) hb)
  have n6_ := Aq.mk (tQ BK833.out hb)
  have n7_ := Aq.mk (tQ BK855.out hb)
  have n8_ := Aq.mk (bQT tB hb)
  have gq_ := Aq.mk (bQT (by repeat (first | (with_reducible first | exact GB4.out | apply bQA | apply bQN | apply bQ1 | refine bQS ?_ G855.out) | exact GB4.out)) hb)
  clear GB4
  have GB4 := gq_
  clear gq_
  clear HO_7
  clear HO_9
  clear HO_12
  clear HO_856001
  clear HO864
  clear HO869
  clear BK833
  clear BK855
  clear HB
  have HO_7 := n0_
  have HO_9 := n1_
  have HO_12 := n2_
  have HO_856001 := n3_
  have HO864 := n4_
  have HO869 := n5_
  have BK833 := n6_
  have BK855 := n7_
  have HB := n8_
  clear n0_ n1_ n2_ n3_ n4_ n5_ n6_ n7_ n8_
  (try clear hb)
  (try clear hb2)
  (try clear hk)
  (try clear hi)
  refine hK.out _ _ ⟨(kQC BK855.out 0).trans rfl, (kQC BK855.out 1).trans rfl, (kQC BK833.out 0).trans rfl, (kQC BK833.out 1).trans rfl⟩ (fun hHeld => ?_)
  clear hK K
  refine tN 72 ?_
  refine tP0k 4 73 (bm 5 31) ?_
  refine done_ (by kernel_rfl) ?_
  go_upto_region 21 with (first | ((with_reducible refine gQc (f := 32) rfl ?_); refine goesL_ (some 76) rfl rfl Try.func32 (by kernel_rfl) rfl #[.slice Ao37 t848.length co37, .int .i64 1] rfl tL ?_; (with_reducible refine (laws_markMatrixS.calls kj18 (fun k_ => n3 ≤ k_ ∧ k_ < w30.heap.size) _ _ t848 1 t871 tm1 w _ tB (by (with_reducible repeat (first | apply Kd.S_alloc | apply Kd.S_drewN | apply Kd.S_drew)); exact Kd.S_below GS4.out GB4.out) A53.out).mono ?_); rintro e w63 ⟨rfl, hs4, hl4, hb, hkp⟩; refine ⟨_, rfl, ?_⟩; have n0_ := Aq.mk (Kd.R_reok rfl (Kd.R_kept (by (with_reducible repeat (first | apply Kd.RqA | apply Kd.RqN | apply Kd.RqD)); exact Kd.R_tight rfl HO_7.out) hkp (fun k_ e_ h_ => by have := GH6.out k_ e_.symm; omega)) (fun k_ e_ => HO_7.out.1 k_ e_)); have n2_ := Aq.mk (Kd.R_reok rfl (Kd.R_kept (by (with_reducible repeat (first | apply Kd.RqA | apply Kd.RqN | apply Kd.RqD)); exact Kd.R_tight rfl HO_12.out) hkp (fun k_ e_ h_ => by have := GH9.out k_ e_.symm; omega)) (fun k_ e_ => HO_12.out.1 k_ e_)); have n3_ := Aq.mk (Kd.R_reok rfl (Kd.R_kept (by (with_reducible repeat (first | apply Kd.RqA | apply Kd.RqN | apply Kd.RqD)); exact Kd.R_tight rfl HO_856001.out) hkp (fun k_ e_ h_ => by have := GHX.out k_ e_.symm; omega)) (fun k_ e_ => HO_856001.out.1 k_ e_)); have n6_ := Aq.mk (blk_kept (tG BK833.out) hkp (fun h_ => by have := GH833.out; omega)); have n7_ := Aq.mk (blk_kept (tG BK855.out) hkp (fun h_ => by have := G855.out; omega)); have n8_ := Aq.mk hb; clear HO_7; clear HO_9; clear HO_12; clear HO_856001; clear HO864; clear HO869; clear BK833; clear BK855; clear HB; have HO_7 := n0_; have HO_12 := n2_; have HO_856001 := n3_; have BK833 := n6_; have BK855 := n7_; have HB := n8_; clear n0_ n2_ n3_ n6_ n7_ n8_; clear hs4 hl4 hb hkp; have hnb64 := NB855_833.out; have hnc64 := NB833_855.out; have hcz65_0 : w63.cell? ⟨gb855, 0, none⟩ = some (.int .i64 t851) := (kQC BK855.out 0).trans rfl; have hcz65_1 : w63.cell? ⟨gb855, 1, none⟩ = some (.slice Ao36 t852.length co36) := (kQC BK855.out 1).trans rfl; have hfz65_0 := kQF BK855.out 0; have hfz65_1 := kQF BK855.out 1) | ((with_reducible refine gQc (f := 39) rfl ?_); refine goesL_ (some 79) rfl rfl Try.func39 (by kernel_rfl) rfl #[.agg #[.int .i64 t851, .slice Ao36 t852.length co36], .int .i64 t871] rfl tL ?_; (with_reducible refine (laws_markMatrix.calls kj18 t851 (fun k_ => some k_ = (.slice Ao36 t852.length co36 : Value).ownBlock) (.slice Ao36 t852.length co36) t852 t871 t872 t873 w _ ?s1 ?s2 A54.out).mono ?_); (case s1 => exact tB); (case s2 => exact Kd.R_tight rfl HO_856001.out); rintro e w66 ⟨rfl, hy0, hb, hkp⟩; refine ⟨_, rfl, ?_⟩; have n0_ := Aq.mk (Kd.R_mono (ok' := fun k_ => some k_ ≠ (v858 : Value).ownBlock ∧ some k_ ≠ (.slice Ao36 t852.length co36 : Value).ownBlock ∧ some k_ ≠ (.slice Ao61 t867.length co61 : Value).ownBlock) (Kd.R_keptB (HO_7.out) hkp (fun k_ hk_ hs_ => (hk_.1.2) hs_)) (fun k_ hk_ => ⟨hk_.1.1.1, hk_.1.1.2, hk_.1.2⟩)); have n2_ := Aq.mk (Kd.R_mono (ok' := fun k_ => some k_ ≠ (v845 : Value).ownBlock ∧ some k_ ≠ (.slice Ao36 t852.length co36 : Value).ownBlock ∧ some k_ ≠ (.slice Ao61 t867.length co61 : Value).ownBlock) (Kd.R_keptB (HO_12.out) hkp (fun k_ hk_ hs_ => (hk_.1.2) hs_)) (fun k_ hk_ => ⟨hk_.1.1.1, hk_.1.1.2, hk_.1.2⟩)); have n3_ := Aq.mk (Kd.R_reok rfl hy0 (fun k_ e_ => HO_856001.out.1 k_ e_)); have n4_ := Aq.mk (blk_kept (tG BK833.out) hkp (fun hs_ => (fun e_ => (Kd.R_ne HO_856001.out BK833.out (by decide)) e_) hs_)); have n5_ := Aq.mk (blk_kept (tG BK855.out) hkp (fun hs_ => (fun e_ => (Kd.R_ne HO_856001.out BK855.out (by decide)) e_) hs_)); have n8_ := Aq.mk (hb); clear HO_7; clear HO_12; clear HO_856001; clear BK833; clear BK855; clear HB; have HO_7 := n0_; have HO_12 := n2_; have HO_856001 := n3_; have BK833 := n4_; have BK855 := n5_; have HB := n8_; clear n0_ n2_ n3_ n4_ n5_ n8_; (try clear hb); (try clear hkp); (try clear hy0)))
  (try simp only [Act.put, qSa, qSb, qSc])
  go_cut [97] (fun v97 wc => ∃ (kq : Nat) (x97_54 : Bool), v97 = .bool x97_54 ∧ Aq (laws_FnExactNearestSpaces.j1 kq l0 t843 t844 t847 t857 x97_54 a1_0 l1_1 = some r) ∧ Aq (kq ≤ kj18) ∧ Aq (Kd.R (Kd.int .i64) 2 wc w.heap.size (fun k_ => some k_ ≠ (v858 : Value).ownBlock ∧ some k_ ≠ ((.slice Ao36 t852.length co36) : Value).ownBlock) v845 t844) ∧ Aq (Kd.R (Kd.int .i64) 2 wc w.heap.size (fun k_ => some k_ ≠ (v845 : Value).ownBlock ∧ some k_ ≠ ((.slice Ao36 t852.length co36) : Value).ownBlock) v858 t857) ∧ Aq (Kd.R (Kd.int .i64) 2 wc w.heap.size (fun k_ => some k_ ≠ (v845 : Value).ownBlock ∧ some k_ ≠ (v858 : Value).ownBlock) (.slice Ao36 t852.length co36) t873) ∧ Aq (wc.heap[gb833]? = some (.cells #[.int .i64 a1_0, (.slice A1_1 l1_1.length c1_1)] 59 (0, 0))) ∧ Aq (wc.heap[gb855]? = some (.cells #[.int .i64 t851, (.slice Ao36 t852.length co36)] 63 (0, 0))) ∧ Aq (Below w.heap.size w wc))
  case first =>
   have H := HC55.out
   clear HC55
   by_cases c67 : t872 < 0
   ·rw [if_pos c67] at H
    have c67b0 := decide_eq_true c67
    clear c67
    (first | rw [c67b0] | (simp only [i64_w, i32_w]; rw [c67b0]) | skip)
    replace H' := Aq.mk H
    clear H
    go_wp2
    go_meet
    case rel => exact ⟨_, (true), tS, H', ⟨by have := HJ18.out; first | omega | exact Nat.le_refl _⟩, ⟨by (with_reducible repeat (first | apply Kd.RqA | apply Kd.RqN | apply Kd.RqD)); exact Kd.R_mono HO_7.out (fun _ hk => ⟨hk.1, hk.2.1⟩)⟩, ⟨by (with_reducible repeat (first | apply Kd.RqA | apply Kd.RqN | apply Kd.RqD)); exact Kd.R_mono HO_12.out (fun _ hk => ⟨hk.1, hk.2.1⟩)⟩, ⟨by (with_reducible repeat (first | apply Kd.RqA | apply Kd.RqN | apply Kd.RqD)); exact Kd.R_mono HO_856001.out (fun _ hk => ⟨hk.1.1, hk.1.2⟩)⟩, ⟨tG BK833.out⟩, ⟨tG BK855.out⟩, ⟨tB⟩⟩
   rw [if_neg c67] at H
   have c67b0 := decide_eq_false c67
   clear c67
   (first | rw [c67b0] | (simp only [i64_w, i32_w]; rw [c67b0]) | skip)
   by_cases c68 : t856 = t843
   rotate_left
   ·rw [if_neg c68] at H
    have c68b0 := beq_eq_false_iff_ne.mpr c68
    have c68b1 := bne_iff_ne.mpr c68
    replace H' := Aq.mk H
    clear H
    go_wp2
    go_meet
    case rel => exact ⟨_, (true), tS, H', ⟨by have := HJ18.out; first | omega | exact Nat.le_refl _⟩, ⟨by (with_reducible repeat (first | apply Kd.RqA | apply Kd.RqN | apply Kd.RqD)); exact Kd.R_mono HO_7.out (fun _ hk => ⟨hk.1, hk.2.1⟩)⟩, ⟨by (with_reducible repeat (first | apply Kd.RqA | apply Kd.RqN | apply Kd.RqD)); exact Kd.R_mono HO_12.out (fun _ hk => ⟨hk.1, hk.2.1⟩)⟩, ⟨by (with_reducible repeat (first | apply Kd.RqA | apply Kd.RqN | apply Kd.RqD)); exact Kd.R_mono HO_856001.out (fun _ hk => ⟨hk.1.1, hk.1.2⟩)⟩, ⟨tG BK833.out⟩, ⟨tG BK855.out⟩, ⟨tB⟩⟩
   rw [if_pos c68] at H
   have c68b0 := beq_iff_eq.mpr c68
   have c68b1 := bne_eq_false_iff_eq.mpr c68
   clear c68
   obtain ⟨t874, A69, H⟩ := qBd H
   by_cases c70 : t874 = true
   ·subst c70
    rw [if_pos rfl] at H
    replace H' := Aq.mk H
    clear H
    obtain ⟨Ao71, co71, eo71⟩ := Kd.R_slice HO_12.out
    subst eo71
    obtain ⟨Ao72, co72, eo72⟩ := Kd.R_slice HO_7.out
    subst eo72
    go_wp2_with (first | (go_at_call 22; (with_reducible refine (laws_eqInt64S.calls kj18 _ _ t857 _ _ t844 true _ ?s1 ?s2 ?s3 ?s4 A69.out).mono ?_); (case s1 => exact tC ((Kd.R_reads' HO_12.out).2.2)); (case s2 => exact (Kd.R_reads' HO_12.out).2.1); (case s3 => exact tC ((Kd.R_reads' HO_7.out).2.2)); (case s4 => exact (Kd.R_reads' HO_7.out).2.1); rintro e w' ⟨rfl, ⟨nd, rfl⟩⟩))
    go_meet
    case rel => exact ⟨_, ((t860 != t847)), tS, H', ⟨by have := HJ18.out; first | omega | exact Nat.le_refl _⟩, ⟨by (with_reducible repeat (first | apply Kd.RqA | apply Kd.RqN | apply Kd.RqD)); exact Kd.R_mono HO_7.out (fun _ hk => ⟨hk.1, hk.2.1⟩)⟩, ⟨by (with_reducible repeat (first | apply Kd.RqA | apply Kd.RqN | apply Kd.RqD)); exact Kd.R_mono HO_12.out (fun _ hk => ⟨hk.1, hk.2.1⟩)⟩, ⟨by (with_reducible repeat (first | apply Kd.RqA | apply Kd.RqN | apply Kd.RqD)); exact Kd.R_mono HO_856001.out (fun _ hk => ⟨hk.1.1, hk.1.2⟩)⟩, ⟨tG BK833.out⟩, ⟨tG BK855.out⟩, ⟨tB⟩⟩
   replace c70 := Bool.eq_false_iff.mpr c70
   subst c70
   rw [if_neg (show ¬ (false = true) by decide)] at H
   replace H' := Aq.mk H
   clear H
   obtain ⟨Ao73, co73, eo73⟩ := Kd.R_slice HO_12.out
   subst eo73
   obtain ⟨Ao74, co74, eo74⟩ := Kd.R_slice HO_7.out
   subst eo74
   go_wp2_with (first | (go_at_call 22; (with_reducible refine (laws_eqInt64S.calls kj18 _ _ t857 _ _ t844 false _ ?s1 ?s2 ?s3 ?s4 A69.out).mono ?_); (case s1 => exact tC ((Kd.R_reads' HO_12.out).2.2)); (case s2 => exact (Kd.R_reads' HO_12.out).2.1); (case s3 => exact tC ((Kd.R_reads' HO_7.out).2.2)); (case s4 => exact (Kd.R_reads' HO_7.out).2.1); rintro e w' ⟨rfl, ⟨nd, rfl⟩⟩))
   go_meet
   case rel => exact ⟨_, (true), tS, H', ⟨by have := HJ18.out; first | omega | exact Nat.le_refl _⟩, ⟨by (with_reducible repeat (first | apply Kd.RqA | apply Kd.RqN | apply Kd.RqD)); exact Kd.R_mono HO_7.out (fun _ hk => ⟨hk.1, hk.2.1⟩)⟩, ⟨by (with_reducible repeat (first | apply Kd.RqA | apply Kd.RqN | apply Kd.RqD)); exact Kd.R_mono HO_12.out (fun _ hk => ⟨hk.1, hk.2.1⟩)⟩, ⟨by (with_reducible repeat (first | apply Kd.RqA | apply Kd.RqN | apply Kd.RqD)); exact Kd.R_mono HO_856001.out (fun _ hk => ⟨hk.1.1, hk.1.2⟩)⟩, ⟨tG BK833.out⟩, ⟨tG BK855.out⟩, ⟨tB⟩⟩
  clear HC55
  try clear c4
  try clear c4b0
  try clear c8
  try clear c8b0
  try clear c39
  try clear c39b0
  try clear c39b1
  try clear c41
  try clear c46
  try clear c49
  try clear c52
  try clear c67
  try clear c67b0
  try clear c68
  try clear c68b0
  try clear c68b1
  try clear c70
  try clear hcz11_0
  try clear hcz11_1
  try clear hcz22_0
  try clear hcz22_1
  try clear hcz31_0
  try clear hcz31_1
  try clear hcz35_0
  try clear hcz35_1
  try clear hcz65_0
  try clear hcz65_1
  try clear hfz11_0
  try clear hfz11_1
  try clear hfz22_0
  try clear hfz22_1
  try clear hfz31_0
  try clear hfz31_1
  try clear hfz35_0
  try clear hfz35_1
  try clear hfz65_0
  try clear hfz65_1
  obtain ⟨kq, x97_54, rfl, HA, HJ54, HO_7, HO_12, HO_856001, BK833, BK855, HB⟩ := hcut
  have hl856001_54 := (Kd.R_reads' HO_856001.out).1
  rw [hl856001_54] at HO_856001
  (try simp only [hl856001_54])
  (try simp only [hl856001_54] at BK833)
  (try simp only [hl856001_54] at BK855)
  (try simp only [hl856001_54] at HO_7)
  (try simp only [hl856001_54] at HO_12)
  cases kq with
  | zero => exact absurd HA.out (by simp [laws_FnExactNearestSpaces.j1])
  | succ kj54 =>
   have H := HA.out
   clear HA
   simp only [laws_FnExactNearestSpaces.j1] at H
   by_cases c75 : x97_54 = true
   ·subst c75
    rw [if_pos rfl] at H
    obtain rfl := Option.some.inj H
    go_wp2
    go_ret
    exact ⟨tE, tB⟩
   replace c75 := Bool.eq_false_iff.mpr c75
   subst c75
   rw [if_neg (show ¬ (false = true) by decide)] at H
   obtain ⟨⟨t875, t876⟩, A76, H⟩ := qBd H
   (try dsimp only at H)
   obtain ⟨t877, A77, H⟩ := qBd H
   by_cases c78 : t877 < 0
   ·rw [if_pos c78] at H
    have c78b0 := decide_eq_true c78
    clear c78
    (try (have c78b0z := c78b0; simp only [hl856001_54] at c78b0z))
    obtain rfl := Option.some.inj H
    obtain ⟨Ao79, co79, eo79⟩ := Kd.R_slice HO_12.out
    subst eo79
    go_wp2_with (first | ((with_reducible refine gQc (f := 25) rfl ?_); refine goesL_ (some 100) rfl rfl Try.func25 (by kernel_rfl) rfl #[.slice Ao79 t857.length co79, .int .i64 1] rfl tL ?_; (with_reducible refine (laws_markInt64S.calls kj54 (fun k_ => some k_ = (.slice Ao79 t857.length co79 : Value).ownBlock) (.slice Ao79 t857.length co79) t857 1 t875 t876 w _ ?s1 ?s2 A76.out).mono ?_); (case s1 => exact tB); (case s2 => exact Kd.R_tight rfl HO_12.out); rintro e w80 ⟨rfl, hy0, hb, hkp⟩; refine ⟨_, rfl, ?_⟩; refine qM6 (Kd.R_mono (ok' := fun k_ => some k_ ≠ (.slice Ao79 t857.length co79 : Value).ownBlock ∧ some k_ ≠ (.slice Ao36 t873.length co36 : Value).ownBlock) (Kd.R_keptB (HO_7.out) hkp (fun k_ hk_ hs_ => (hk_.1) hs_)) (fun k_ hk_ => ⟨hk_.1.1, hk_.1.2⟩)) (Kd.R_reok rfl hy0 (fun k_ e_ => HO_12.out.1 k_ e_)) (Kd.R_mono (ok' := fun k_ => some k_ ≠ (v845 : Value).ownBlock ∧ some k_ ≠ (.slice Ao79 t857.length co79 : Value).ownBlock) (Kd.R_keptB (HO_856001.out) hkp (fun k_ hk_ hs_ => (hk_.2) hs_)) (fun k_ hk_ => ⟨hk_.1.1, hk_.1.2⟩)) (blk_kept (tG BK833.out) hkp (fun hs_ => (fun e_ => (Kd.R_ne HO_12.out BK833.out (by decide)) e_) hs_)) (blk_kept (tG BK855.out) hkp (fun hs_ => (fun e_ => (Kd.R_ne HO_12.out BK855.out (by decide)) e_) hs_)) hb ?_; clear HO_7 HO_12 HO_856001 BK833 BK855 HB; intro HO_7 HO_12 HO_856001 BK833 BK855 HB; (try clear hb); (try clear hkp); (try clear hy0)) | ((with_reducible refine gQc (f := 26) rfl ?_); refine goesL_ (some 103) rfl rfl Try.func26 (by kernel_rfl) rfl #[.slice Ao79 t876.length co79, .int .i64 1] rfl (by (try simp only [List.map_toArray, List.map_cons, List.map_nil]); first | done | (rw [show t876.length = t857.length from (Kd.R_reads' HO_12.out).1.symm] <;> rfl) | rfl | (simp only [List.length_drop, List.length_take]; rfl)) ?_; (with_reducible refine (laws_heldInt64S.calls kj54 _ _ t876 1 t877 _ ?s1 ?s2 A77.out).mono ?_); (case s1 => exact tC ((Kd.R_reads' HO_12.out).2.2)); (case s2 => rw [show t876.length = t857.length from (Kd.R_reads' HO_12.out).1.symm]; exact (Kd.R_reads' HO_12.out).2.1); rintro e w' ⟨rfl, ⟨nd, rfl⟩⟩; refine ⟨_, rfl, ?_⟩))
    go_ret
    exact ⟨tE, tB⟩
   rw [if_neg c78] at H
   have c78b0 := decide_eq_false c78
   clear c78
   (try (have c78b0z := c78b0; simp only [hl856001_54] at c78b0z))
   by_cases c81 : t877 = t875
   rotate_left
   ·rw [if_neg c81] at H
    have c81b0 := beq_eq_false_iff_ne.mpr c81
    have c81b1 := bne_iff_ne.mpr c81
    (try (have c81b0z := c81b0; simp only [hl856001_54] at c81b0z))
    (try (have c81b1z := c81b1; simp only [hl856001_54] at c81b1z))
    obtain rfl := Option.some.inj H
    obtain ⟨Ao105, co105, eo105⟩ := Kd.R_slice HO_12.out
    subst eo105
    go_wp2_with (first | ((with_reducible refine gQc (f := 25) rfl ?_); refine goesL_ (some 100) rfl rfl Try.func25 (by kernel_rfl) rfl #[.slice Ao105 t857.length co105, .int .i64 1] rfl tL ?_; (with_reducible refine (laws_markInt64S.calls kj54 (fun k_ => some k_ = (.slice Ao105 t857.length co105 : Value).ownBlock) (.slice Ao105 t857.length co105) t857 1 t875 t876 w _ ?s1 ?s2 A76.out).mono ?_); (case s1 => exact tB); (case s2 => exact Kd.R_tight rfl HO_12.out); rintro e w106 ⟨rfl, hy0, hb, hkp⟩; refine ⟨_, rfl, ?_⟩; refine qM6 (Kd.R_mono (ok' := fun k_ => some k_ ≠ (.slice Ao105 t857.length co105 : Value).ownBlock ∧ some k_ ≠ (.slice Ao36 t873.length co36 : Value).ownBlock) (Kd.R_keptB (HO_7.out) hkp (fun k_ hk_ hs_ => (hk_.1) hs_)) (fun k_ hk_ => ⟨hk_.1.1, hk_.1.2⟩)) (Kd.R_reok rfl hy0 (fun k_ e_ => HO_12.out.1 k_ e_)) (Kd.R_mono (ok' := fun k_ => some k_ ≠ (v845 : Value).ownBlock ∧ some k_ ≠ (.slice Ao105 t857.length co105 : Value).ownBlock) (Kd.R_keptB (HO_856001.out) hkp (fun k_ hk_ hs_ => (hk_.2) hs_)) (fun k_ hk_ => ⟨hk_.1.1, hk_.1.2⟩)) (blk_kept (tG BK833.out) hkp (fun hs_ => (fun e_ => (Kd.R_ne HO_12.out BK833.out (by decide)) e_) hs_)) (blk_kept (tG BK855.out) hkp (fun hs_ => (fun e_ => (Kd.R_ne HO_12.out BK855.out (by decide)) e_) hs_)) hb ?_; clear HO_7 HO_12 HO_856001 BK833 BK855 HB; intro HO_7 HO_12 HO_856001 BK833 BK855 HB; (try clear hb); (try clear hkp); (try clear hy0)) | ((with_reducible refine gQc (f := 26) rfl ?_); refine goesL_ (some 103) rfl rfl Try.func26 (by kernel_rfl) rfl #[.slice Ao105 t876.length co105, .int .i64 1] rfl (by (try simp only [List.map_toArray, List.map_cons, List.map_nil]); first | done | (rw [show t876.length = t857.length from (Kd.R_reads' HO_12.out).1.symm] <;> rfl) | rfl | (simp only [List.length_drop, List.length_take]; rfl)) ?_; (with_reducible refine (laws_heldInt64S.calls kj54 _ _ t876 1 t877 _ ?s1 ?s2 A77.out).mono ?_); (case s1 => exact tC ((Kd.R_reads' HO_12.out).2.2)); (case s2 => rw [show t876.length = t857.length from (Kd.R_reads' HO_12.out).1.symm]; exact (Kd.R_reads' HO_12.out).2.1); rintro e w' ⟨rfl, ⟨nd, rfl⟩⟩; refine ⟨_, rfl, ?_⟩))
    go_ret
    exact ⟨tE, tB⟩
   rw [if_pos c81] at H
   have c81b0 := beq_iff_eq.mpr c81
   have c81b1 := bne_eq_false_iff_eq.mpr c81
   clear c81
   (try (have c81b0z := c81b0; simp only [hl856001_54] at c81b0z))
   (try (have c81b1z := c81b1; simp only [hl856001_54] at c81b1z))
   obtain ⟨t878, A82, H⟩ := qBd H
   obtain ⟨⟨t881, t882⟩, A83, H⟩ := qBd H
   (try dsimp only at H)
   obtain ⟨⟨t885, t886, t889⟩, A84, H⟩ := qBd H
   (try dsimp only at H)
   have HC85 := Aq.mk H
   clear H
   obtain ⟨Ao86, co86, eo86⟩ := Kd.R_slice HO_12.out
   subst eo86
   try go_wp2_with (first | ((with_reducible refine gQc (f := 25) rfl ?_); refine goesL_ (some 100) rfl rfl Try.func25 (by kernel_rfl) rfl #[.slice Ao86 t857.length co86, .int .i64 1] rfl tL ?_; (with_reducible refine (laws_markInt64S.calls kj54 (fun k_ => some k_ = (.slice Ao86 t857.length co86 : Value).ownBlock) (.slice Ao86 t857.length co86) t857 1 t875 t876 w _ ?s1 ?s2 A76.out).mono ?_); (case s1 => exact tB); (case s2 => exact Kd.R_tight rfl HO_12.out); rintro e w87 ⟨rfl, hy0, hb, hkp⟩; refine ⟨_, rfl, ?_⟩; refine qM6 (Kd.R_mono (ok' := fun k_ => some k_ ≠ (.slice Ao86 t857.length co86 : Value).ownBlock ∧ some k_ ≠ (.slice Ao36 t873.length co36 : Value).ownBlock) (Kd.R_keptB (HO_7.out) hkp (fun k_ hk_ hs_ => (hk_.1) hs_)) (fun k_ hk_ => ⟨hk_.1.1, hk_.1.2⟩)) (Kd.R_reok rfl hy0 (fun k_ e_ => HO_12.out.1 k_ e_)) (Kd.R_mono (ok' := fun k_ => some k_ ≠ (v845 : Value).ownBlock ∧ some k_ ≠ (.slice Ao86 t857.length co86 : Value).ownBlock) (Kd.R_keptB (HO_856001.out) hkp (fun k_ hk_ hs_ => (hk_.2) hs_)) (fun k_ hk_ => ⟨hk_.1.1, hk_.1.2⟩)) (blk_kept (tG BK833.out) hkp (fun hs_ => (fun e_ => (Kd.R_ne HO_12.out BK833.out (by decide)) e_) hs_)) (blk_kept (tG BK855.out) hkp (fun hs_ => (fun e_ => (Kd.R_ne HO_12.out BK855.out (by decide)) e_) hs_)) hb ?_; clear HO_7 HO_12 HO_856001 BK833 BK855 HB; intro HO_7 HO_12 HO_856001 BK833 BK855 HB; (try clear hb); (try clear hkp); (try clear hy0)) | ((with_reducible refine gQc (f := 26) rfl ?_); refine goesL_ (some 103) rfl rfl Try.func26 (by kernel_rfl) rfl #[.slice Ao86 t876.length co86, .int .i64 1] rfl (by (try simp only [List.map_toArray, List.map_cons, List.map_nil]); first | done | (rw [show t876.length = t857.length from (Kd.R_reads' HO_12.out).1.symm] <;> rfl) | rfl | (simp only [List.length_drop, List.length_take]; rfl)) ?_; (with_reducible refine (laws_heldInt64S.calls kj54 _ _ t876 1 t877 _ ?s1 ?s2 A77.out).mono ?_); (case s1 => exact tC ((Kd.R_reads' HO_12.out).2.2)); (case s2 => rw [show t876.length = t857.length from (Kd.R_reads' HO_12.out).1.symm]; exact (Kd.R_reads' HO_12.out).2.1); rintro e w' ⟨rfl, ⟨nd, rfl⟩⟩; refine ⟨_, rfl, ?_⟩))
   (try (rw [drewN_self w87]; generalize hq_ : World.drewN w87 _ = w87; have n0_ : Aq (Kd.R (Kd.int .i64) 2 w87 w.heap.size (fun k_ => (some k_ ≠ (v845 : Value).ownBlock ∧ some k_ ≠ (.slice Ao36 t873.length co36 : Value).ownBlock)) (.slice Ao86 t857.length co86) t876) := ⟨by rw [← hq_]; exact (tR HO_12.out)⟩; have n1_ : Aq (Kd.R (Kd.int .i64) 2 w87 w.heap.size (fun k_ => (some k_ ≠ (.slice Ao86 t857.length co86 : Value).ownBlock ∧ some k_ ≠ (.slice Ao36 t873.length co36 : Value).ownBlock)) v845 t844) := ⟨by rw [← hq_]; exact (tR HO_7.out)⟩; have n2_ : Aq (Kd.R (Kd.int .i64) 2 w87 w.heap.size (fun k_ => (some k_ ≠ (v845 : Value).ownBlock ∧ some k_ ≠ (.slice Ao86 t857.length co86 : Value).ownBlock)) (.slice Ao36 t873.length co36) t873) := ⟨by rw [← hq_]; exact (tR HO_856001.out)⟩; have n3_ : Aq (w87.heap[gb833]? = some (.cells #[.int .i64 a1_0, .slice A1_1 l1_1.length c1_1] 59 (0, 0))) := ⟨by rw [← hq_]; exact (tG BK833.out)⟩; have n4_ : Aq (w87.heap[gb855]? = some (.cells #[.int .i64 t851, .slice Ao36 t873.length co36] 63 (0, 0))) := ⟨by rw [← hq_]; exact (tG BK855.out)⟩; have n5_ : Aq (Below w.heap.size w w87) := ⟨by rw [← hq_]; exact tB⟩; clear HO_12 HO_7 HO_856001 BK833 BK855 HB hq_; have HO_12 := n0_; have HO_7 := n1_; have HO_856001 := n2_; have BK833 := n3_; have BK855 := n4_; have HB := n5_; clear n0_ n1_ n2_ n3_ n4_ n5_))
   have n0_ := Aq.mk (Kd.RqD HO_7.out)
   have n1_ := Aq.mk (Kd.RqD HO_12.out)
   have n2_ := Aq.mk (Kd.RqD HO_856001.out)
   have n3_ := Aq.mk (kQD BK833.out)
   have n4_ := Aq.mk (kQD BK855.out)
   have n5_ := Aq.mk (bQ1 HB.out)
   clear HO_7
   clear HO_12
   clear HO_856001
   clear BK833
   clear BK855
   clear HB
   have HO_7 := n0_
   have HO_12 := n1_
   have HO_856001 := n2_
   have BK833 := n3_
   have BK855 := n4_
   have HB := n5_
   clear n0_ n1_ n2_ n3_ n4_ n5_
   refine start_ (n := 12) (S := fun w' => w'.cell? ⟨gb833, 0, none⟩ = some (.int .i64 a1_0) ∧ w'.cell? ⟨gb833, 1, none⟩ = some (.slice A1_1 l1_1.length c1_1)) (ds := []) #[false, false, false, false, false, false, false, false, false, false, false, false] (by kernel_rfl) rfl rfl ⟨(kQC BK833.out 0).trans rfl, (kQC BK833.out 1).trans rfl⟩ (fun hHeld => ?_); refine with_tabW laws_FnExactNearestSpaces.tab31 laws_FnExactNearestSpaces.bits31 (fun HT_ HW_ => ?_)
   generalize w87.drew = w88 at HO_7 HO_12 HO_856001 BK833 BK855 HB hHeld ⊢
   refine tP0 0 110 (bm 12 1) ?_
   refine tT2 2 112 (bm 12 5) ?_
   refine one_ (i := 1) (N := some 111) (bm 12 7) rfl rfl (one_of HT_.out (by kernel_rfl)) (by decide) (fun K hK => ?_)
   refine goes_ Try.func29 (by kernel_rfl) rfl #[.slice A0 l0.length c0] (by rfl) rfl rfl tL ?_
   with_reducible refine (laws_toMatrixS.calls kj54 _ _ l0 t878 _ ?s1 ?s2 A82.out).mono ?_
   (case s1 => exact tC ((Kd.C_below HR0.out HB.out)))
   (case s2 => exact HC0.out)
   rintro e w89 ⟨v879, rfl, ho0, hb⟩
   refine ⟨_, rfl, ?_⟩
   have n0_ := Aq.mk (Kd.R_below (tR HO_7.out) hb)
   have n1_ := Aq.mk (Kd.R_below (tR HO_12.out) hb)
   have n2_ := Aq.mk (Kd.R_below (tR HO_856001.out) hb)
   have n3_ := Aq.mk (Kd.S_lower (Kd.S_newB (Kd.S_new' (Kd.S_new' (Kd.S_new' ho0 (Kd.R_lt (tR HO_7.out))) (Kd.R_lt (tR HO_12.out))) (Kd.R_lt (tR HO_856001.out))) (g := gb855) (o := .cells #[.int .i64 t851, .slice Ao36 t873.length co36] 63 (0, 0)) (tG BK855.out)) (bQZ tB))
   have n4_ := Aq.mk (tQ BK833.out hb)
   have n5_ := Aq.mk (tQ BK855.out hb)
   have n6_ := Aq.mk (bQT tB hb)
   clear HO_7
   clear HO_12
   clear HO_856001
   clear BK833
   clear BK855
   clear HB
   have HO_7 := n0_
   have HO_12 := n1_
   have HO_856001 := n2_
   have HO880 := n3_
   have BK833 := n4_
   have BK855 := n5_
   have HB := n6_
   clear n0_ n1_ n2_ n3_ n4_ n5_ n6_
   (try clear hb)
   (try clear hb2)
   (try clear hk)
   (try clear hi)
   (try clear ho0)
   refine hK.out _ _ ⟨(kQC BK833.out 0).trans rfl, (kQC BK833.out 1).trans rfl⟩ (fun hHeld => ?_)
   clear hK K
   refine tN 111 ?_
   refine one_ (i := 3) (N := some 113) (bm 12 15) rfl rfl (one_of HT_.out (by kernel_rfl)) (by decide) (fun K hK => ?_)
   refine goes_ Try.func36 (by kernel_rfl) rfl #[.agg #[.int .i64 a1_0, .slice A1_1 l1_1.length c1_1]] (by rfl) rfl rfl tL ?_
   with_reducible refine (laws_toMatrix.calls kj54 a1_0 _ _ l1_1 t881 t882 _ ?s1 ?s2 A83.out).mono ?_
   (case s1 => exact tC ((Kd.C_below HR1_1.out HB.out)))
   (case s2 => exact HC1_1.out)
   rintro e w90 ⟨v883, rfl, ho0, hb⟩
   refine ⟨_, rfl, ?_⟩
   have n0_ := Aq.mk (Kd.R_elder' (tR HO_7.out) (Kd.R_base ho0) hb)
   have n1_ := Aq.mk (Kd.R_elder' (tR HO_12.out) (Kd.R_base ho0) hb)
   have n2_ := Aq.mk (Kd.R_elder' (tR HO_856001.out) (Kd.R_base ho0) hb)
   have n3_ := Aq.mk (Kd.S_elder' (by (with_reducible repeat (first | apply Kd.S_alloc | apply Kd.S_drewN | apply Kd.S_drew)); exact HO880.out) (Kd.R_base ho0) hb)
   have n4_ := Aq.mk (Kd.R_lower (Kd.R_new' (Kd.R_new' (Kd.R_new' ho0 (Kd.R_lt (tR HO_7.out))) (Kd.R_lt (tR HO_12.out))) (Kd.R_lt (tR HO_856001.out))) (bQZ tB))
   have n5_ := Aq.mk (tQ BK833.out hb)
   have n6_ := Aq.mk (tQ BK855.out hb)
   have n7_ := Aq.mk (bQT tB hb)
   clear HO_7
   clear HO_12
   clear HO_856001
   clear HO880
   clear BK833
   clear BK855
   clear HB
   have HO_7 := n0_
   have HO_12 := n1_
   have HO_856001 := n2_
   have HO880 := n3_
   have HO884 := n4_
   have BK833 := n5_
   have BK855 := n6_
   have HB := n7_
   clear n0_ n1_ n2_ n3_ n4_ n5_ n6_ n7_
   (try clear hb)
   (try clear hb2)
   (try clear hk)
   (try clear hi)
   (try clear ho0)
   obtain ⟨Ao91, co91, eo91⟩ := Kd.S_slice HO880.out
   (first | subst eo91 | (injection eo91 with f1_ f2_ f3_; have f4_ := f1_.symm; have f5_ := f3_.symm; clear f1_ f2_ f3_; subst f4_; subst f5_))
   obtain ⟨Ao92, co92, eo92⟩ := Kd.R_slice HO884.out
   (first | subst eo92 | (injection eo92 with f1_ f2_ f3_; have f4_ := f1_.symm; have f5_ := f3_.symm; clear f1_ f2_ f3_; subst f4_; subst f5_))
   refine hK.out _ _ ⟨(kQC BK833.out 0).trans rfl, (kQC BK833.out 1).trans rfl⟩ (fun hHeld => ?_)
   clear hK K
   refine tN 113 ?_
   refine one_ (i := 4) (N := some 114) (bm 12 31) rfl rfl (one_of HT_.out (by kernel_rfl)) (by decide) (fun K hK => ?_)
   refine goes_ Try.func37 (by kernel_rfl) rfl #[.slice Ao91 t878.length co91, .agg #[.int .i64 t881, .slice Ao92 t882.length co92]] (by rfl) rfl rfl tL ?_
   with_reducible refine (impl_NearestSpaces.calls kj54 _ _ t878 t881 _ _ t882 t885 t886 t889 _ ?s1 ?s2 ?s3 ?s4 A84.out).mono ?_
   (case s1 => exact tC ((Kd.S_reads' HO880.out).2.2))
   (case s2 => exact (Kd.S_reads' HO880.out).2.1)
   (case s3 => exact tC ((Kd.R_reads' HO884.out).2.2))
   (case s4 => exact (Kd.R_reads' HO884.out).2.1)
   rintro e w93 ⟨v887, rfl, ho0, hb⟩
   refine ⟨_, rfl, ?_⟩
   have n0_ := Aq.mk (Kd.R_elder' (tR HO_7.out) (Kd.R_base ho0) hb)
   have n1_ := Aq.mk (Kd.R_elder' (tR HO_12.out) (Kd.R_base ho0) hb)
   have n2_ := Aq.mk (Kd.R_elder' (tR HO_856001.out) (Kd.R_base ho0) hb)
   have n3_ := Aq.mk (Kd.S_elder' (by (with_reducible repeat (first | apply Kd.S_alloc | apply Kd.S_drewN | apply Kd.S_drew)); exact HO880.out) (Kd.R_base ho0) hb)
   have n4_ := Aq.mk (Kd.R_elder' (tR HO884.out) (Kd.R_base ho0) hb)
   have n5_ := Aq.mk (Kd.R_lower (Kd.R_new' (Kd.R_new' (Kd.R_new' (Kd.R_new' ho0 (Kd.R_lt (tR HO_7.out))) (Kd.R_lt (tR HO_12.out))) (Kd.R_lt (tR HO_856001.out))) (Kd.R_lt (tR HO884.out))) (bQZ tB))
   have n6_ := Aq.mk (tQ BK833.out hb)
   have n7_ := Aq.mk (tQ BK855.out hb)
   have n8_ := Aq.mk (bQT tB hb)
   clear HO_7
   clear HO_12
   clear HO_856001
   clear HO880
   clear HO884
   clear BK833
   clear BK855
   clear HB
   have HO_7 := n0_
   have HO_12 := n1_
   have HO_856001 := n2_
   have HO880 := n3_
   have HO884 := n4_
   have HO888 := n5_
   have BK833 := n6_
   have BK855 := n7_
   have HB := n8_
   clear n0_ n1_ n2_ n3_ n4_ n5_ n6_ n7_ n8_
   (try clear hb)
   (try clear hb2)
   (try clear hk)
   (try clear hi)
   (try clear ho0)
   refine hK.out _ _ ⟨(kQC BK833.out 0).trans rfl, (kQC BK833.out 1).trans rfl⟩ (fun hHeld => ?_)
   clear hK K
   refine tN 114 ?_
   refine tP0 5 109 (bm 12 63) ?_
   refine tP0 6 115 (bm 12 127) ?_
   refine tP0 7 116 (bm 12 255) ?_
   refine tP0 8 117 (bm 12 511) ?_
   refine tP0 9 17 (bm 12 1023) ?_
   refine tP0 10 18 (bm 12 2047) ?_
   refine tP0 11 19 (bm 12 4095) ?_
   refine done_ (done_of HT_.out (by kernel_rfl)) ?_
   go_upto_region 32 with (fail)
   go_cut [131] (fun v131 wc => ∃ (kq : Nat) (x131_84 : Bool), v131 = .bool x131_84 ∧ Aq (laws_FnExactNearestSpaces.j2 kq t876 t875 x131_84 = some r) ∧ Aq (kq ≤ kj54) ∧ Aq (Kd.R (Kd.int .i64) 2 wc w.heap.size (fun k_ => some k_ ≠ ((.slice Ao36 t873.length co36) : Value).ownBlock) (.slice Ao86 t857.length co86) t876) ∧ Aq (Kd.R (Kd.int .i64) 2 wc w.heap.size (fun k_ => some k_ ≠ ((.slice Ao86 t857.length co86) : Value).ownBlock) (.slice Ao36 t873.length co36) t873) ∧ Aq (wc.heap[gb833]? = some (.cells #[.int .i64 a1_0, (.slice A1_1 l1_1.length c1_1)] 59 (0, 0))) ∧ Aq (wc.heap[gb855]? = some (.cells #[.int .i64 t851, (.slice Ao36 t873.length co36)] 63 (0, 0))) ∧ Aq (Below w.heap.size w wc))
   case first =>
    have H := HC85.out
    clear HC85
    by_cases c94 : t885 = t843
    rotate_left
    ·rw [if_neg c94] at H
     have c94b0 := beq_eq_false_iff_ne.mpr c94
     have c94b1 := bne_iff_ne.mpr c94
     (first | rw [c94b0] | (simp only [i64_w, i32_w]; rw [c94b0]) | skip)
     (try (have c94b0z := c94b0; simp only [hl856001_54] at c94b0z))
     (try (have c94b1z := c94b1; simp only [hl856001_54] at c94b1z))
     replace H' := Aq.mk H
     clear H
     go_wp2
     go_meet
     case rel => exact ⟨_, (true), tS, H', ⟨by have := HJ18.out; have := HJ54.out; first | omega | exact Nat.le_refl _⟩, ⟨by (try simp only [hl856001_54]); (with_reducible repeat (first | apply Kd.RqA | apply Kd.RqN | apply Kd.RqD)); exact Kd.R_mono HO_12.out (fun _ hk => hk.1.1.2)⟩, ⟨by (try simp only [hl856001_54]); (with_reducible repeat (first | apply Kd.RqA | apply Kd.RqN | apply Kd.RqD)); exact Kd.R_mono HO_856001.out (fun _ hk => hk.1.1.2)⟩, ⟨by (try simp only [hl856001_54]); (with_reducible repeat (first | refine kQN ?_ _ | refine kQD ?_ | refine kQA ?_ _)); exact BK833.out⟩, ⟨by (try simp only [hl856001_54]); (with_reducible repeat (first | refine kQN ?_ _ | refine kQD ?_ | refine kQA ?_ _)); exact BK855.out⟩, ⟨tB⟩⟩
    rw [if_pos c94] at H
    have c94b0 := beq_iff_eq.mpr c94
    have c94b1 := bne_eq_false_iff_eq.mpr c94
    clear c94
    (first | rw [c94b0] | (simp only [i64_w, i32_w]; rw [c94b0]) | skip)
    (try (have c94b0z := c94b0; simp only [hl856001_54] at c94b0z))
    (try (have c94b1z := c94b1; simp only [hl856001_54] at c94b1z))
    obtain ⟨t890, A95, H⟩ := qBd H
    by_cases c96 : t890 = true
    ·subst c96
     rw [if_pos rfl] at H
     replace H' := Aq.mk H
     clear H
     obtain ⟨Ao97, co97, eo97⟩ := Kd.R_slice HO888.out
     subst eo97
     obtain ⟨Ao98, co98, eo98⟩ := Kd.R_slice HO_7.out
     subst eo98
     go_wp2_with (first | (go_at_call 22; (with_reducible refine (laws_eqInt64S.calls kj54 _ _ t886 _ _ t844 true _ ?s1 ?s2 ?s3 ?s4 A95.out).mono ?_); (case s1 => exact tC ((Kd.R_reads' HO888.out).2.2)); (case s2 => exact (Kd.R_reads' HO888.out).2.1); (case s3 => exact tC ((Kd.R_reads' HO_7.out).2.2)); (case s4 => exact (Kd.R_reads' HO_7.out).2.1); rintro e w' ⟨rfl, ⟨nd, rfl⟩⟩))
     go_meet
     case rel => exact ⟨_, ((t889 != t847)), tS, H', ⟨by have := HJ18.out; have := HJ54.out; first | omega | exact Nat.le_refl _⟩, ⟨by (try simp only [hl856001_54]); (with_reducible repeat (first | apply Kd.RqA | apply Kd.RqN | apply Kd.RqD)); exact Kd.R_mono HO_12.out (fun _ hk => hk.1.1.2)⟩, ⟨by (try simp only [hl856001_54]); (with_reducible repeat (first | apply Kd.RqA | apply Kd.RqN | apply Kd.RqD)); exact Kd.R_mono HO_856001.out (fun _ hk => hk.1.1.2)⟩, ⟨by (try simp only [hl856001_54]); (with_reducible repeat (first | refine kQN ?_ _ | refine kQD ?_ | refine kQA ?_ _)); exact BK833.out⟩, ⟨by (try simp only [hl856001_54]); (with_reducible repeat (first | refine kQN ?_ _ | refine kQD ?_ | refine kQA ?_ _)); exact BK855.out⟩, ⟨tB⟩⟩
    replace c96 := Bool.eq_false_iff.mpr c96
    subst c96
    rw [if_neg (show ¬ (false = true) by decide)] at H
    replace H' := Aq.mk H
    clear H
    obtain ⟨Ao99, co99, eo99⟩ := Kd.R_slice HO888.out
    subst eo99
    obtain ⟨Ao100, co100, eo100⟩ := Kd.R_slice HO_7.out
    subst eo100
    go_wp2_with (first | (go_at_call 22; (with_reducible refine (laws_eqInt64S.calls kj54 _ _ t886 _ _ t844 false _ ?s1 ?s2 ?s3 ?s4 A95.out).mono ?_); (case s1 => exact tC ((Kd.R_reads' HO888.out).2.2)); (case s2 => exact (Kd.R_reads' HO888.out).2.1); (case s3 => exact tC ((Kd.R_reads' HO_7.out).2.2)); (case s4 => exact (Kd.R_reads' HO_7.out).2.1); rintro e w' ⟨rfl, ⟨nd, rfl⟩⟩))
    go_meet
    case rel => exact ⟨_, (true), tS, H', ⟨by have := HJ18.out; have := HJ54.out; first | omega | exact Nat.le_refl _⟩, ⟨by (try simp only [hl856001_54]); (with_reducible repeat (first | apply Kd.RqA | apply Kd.RqN | apply Kd.RqD)); exact Kd.R_mono HO_12.out (fun _ hk => hk.1.1.2)⟩, ⟨by (try simp only [hl856001_54]); (with_reducible repeat (first | apply Kd.RqA | apply Kd.RqN | apply Kd.RqD)); exact Kd.R_mono HO_856001.out (fun _ hk => hk.1.1.2)⟩, ⟨by (try simp only [hl856001_54]); (with_reducible repeat (first | refine kQN ?_ _ | refine kQD ?_ | refine kQA ?_ _)); exact BK833.out⟩, ⟨by (try simp only [hl856001_54]); (with_reducible repeat (first | refine kQN ?_ _ | refine kQD ?_ | refine kQA ?_ _)); exact BK855.out⟩, ⟨tB⟩⟩
   clear HC85
   try clear c4
   try clear c4b0
   try clear c8
   try clear c8b0
   try clear c39
   try clear c39b0
   try clear c39b1
   try clear c41
   try clear c46
   try clear c49
   try clear c52
   try clear c67
   try clear c67b0
   try clear c68
   try clear c68b0
   try clear c68b1
   try clear c70
   try clear c75
   try clear c78
   try clear c78b0
   try clear c81
   try clear c81b0
   try clear c81b1
   try clear c94
   try clear c94b0
   try clear c94b1
   try clear c96
   try clear hcz11_0
   try clear hcz11_1
   try clear hcz22_0
   try clear hcz22_1
   try clear hcz31_0
   try clear hcz31_1
   try clear hcz35_0
   try clear hcz35_1
   try clear hcz65_0
   try clear hcz65_1
   try clear hfz11_0
   try clear hfz11_1
   try clear hfz22_0
   try clear hfz22_1
   try clear hfz31_0
   try clear hfz31_1
   try clear hfz35_0
   try clear hfz35_1
   try clear hfz65_0
   try clear hfz65_1
   obtain ⟨kq, x131_84, rfl, HA, HJ84, HO_12, HO_856001, BK833, BK855, HB⟩ := hcut
   have hl12_84 := (Kd.R_reads' HO_12.out).1
   rw [hl12_84] at HO_12
   (try simp only [hl12_84])
   (try simp only [hl12_84] at BK833)
   (try simp only [hl12_84] at BK855)
   (try simp only [hl12_84] at HO_856001)
   cases kq with
   | zero => exact absurd HA.out (by simp [laws_FnExactNearestSpaces.j2])
   | succ kj84 =>
    have H := HA.out
    clear HA
    simp only [laws_FnExactNearestSpaces.j2] at H
    by_cases c101 : x131_84 = true
    ·subst c101
     rw [if_pos rfl] at H
     obtain rfl := Option.some.inj H
     go_wp2
     go_ret
     exact ⟨tE, tB⟩
    replace c101 := Bool.eq_false_iff.mpr c101
    subst c101
    rw [if_neg (show ¬ (false = true) by decide)] at H
    obtain ⟨t891, A102, H⟩ := qBd H
    by_cases c103 : t891 < 0
    ·rw [if_pos c103] at H
     have c103b0 := decide_eq_true c103
     clear c103
     (try (have c103b0z := c103b0; simp only [hl856001_54, hl12_84] at c103b0z))
     obtain rfl := Option.some.inj H
     go_wp2_with (first | ((with_reducible refine gQc (f := 26) rfl ?_); refine goesL_ (some 134) rfl rfl Try.func26 (by kernel_rfl) rfl #[.slice Ao86 t876.length co86, .int .i64 1] rfl tL ?_; (with_reducible refine (laws_heldInt64S.calls kj84 _ _ t876 1 t891 _ ?s1 ?s2 A102.out).mono ?_); (case s1 => exact tC ((Kd.R_reads' HO_12.out).2.2)); (case s2 => exact (Kd.R_reads' HO_12.out).2.1); rintro e w' ⟨rfl, ⟨nd, rfl⟩⟩; refine ⟨_, rfl, ?_⟩))
     go_ret
     exact ⟨tE, tB⟩
    rw [if_neg c103] at H
    have c103b0 := decide_eq_false c103
    clear c103
    (try (have c103b0z := c103b0; simp only [hl856001_54, hl12_84] at c103b0z))
    by_cases c104 : t891 = t875
    ·rw [if_pos c104] at H
     have c104b0 := beq_iff_eq.mpr c104
     have c104b1 := bne_eq_false_iff_eq.mpr c104
     clear c104
     (try (have c104b0z := c104b0; simp only [hl856001_54, hl12_84] at c104b0z))
     (try (have c104b1z := c104b1; simp only [hl856001_54, hl12_84] at c104b1z))
     obtain rfl := Option.some.inj H
     go_wp2_with (first | ((with_reducible refine gQc (f := 26) rfl ?_); refine goesL_ (some 134) rfl rfl Try.func26 (by kernel_rfl) rfl #[.slice Ao86 t876.length co86, .int .i64 1] rfl tL ?_; (with_reducible refine (laws_heldInt64S.calls kj84 _ _ t876 1 t891 _ ?s1 ?s2 A102.out).mono ?_); (case s1 => exact tC ((Kd.R_reads' HO_12.out).2.2)); (case s2 => exact (Kd.R_reads' HO_12.out).2.1); rintro e w' ⟨rfl, ⟨nd, rfl⟩⟩; refine ⟨_, rfl, ?_⟩))
     go_ret
     exact ⟨tE, tB⟩
    rw [if_neg c104] at H
    have c104b0 := beq_eq_false_iff_ne.mpr c104
    have c104b1 := bne_iff_ne.mpr c104
    (try (have c104b0z := c104b0; simp only [hl856001_54, hl12_84] at c104b0z))
    (try (have c104b1z := c104b1; simp only [hl856001_54, hl12_84] at c104b1z))
    obtain rfl := Option.some.inj H
    go_wp2_with (first | ((with_reducible refine gQc (f := 26) rfl ?_); refine goesL_ (some 134) rfl rfl Try.func26 (by kernel_rfl) rfl #[.slice Ao86 t876.length co86, .int .i64 1] rfl tL ?_; (with_reducible refine (laws_heldInt64S.calls kj84 _ _ t876 1 t891 _ ?s1 ?s2 A102.out).mono ?_); (case s1 => exact tC ((Kd.R_reads' HO_12.out).2.2)); (case s2 => exact (Kd.R_reads' HO_12.out).2.1); rintro e w' ⟨rfl, ⟨nd, rfl⟩⟩; refine ⟨_, rfl, ?_⟩))
    go_ret
    exact ⟨tE, tB⟩
end Go.Proofs.Ytbalkaphibnpcaa.P
