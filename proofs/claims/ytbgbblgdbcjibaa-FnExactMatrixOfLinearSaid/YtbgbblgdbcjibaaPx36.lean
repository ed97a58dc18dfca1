/- Functions of the program and what they tell, as the printing program wrote it. -/
import Derived.Test.YtbgbblgdbcjibaaPx0
import Derived.Test.YtbgbblgdbcjibaaPx1
import Derived.Test.YtbgbblgdbcjibaaPx5
import Derived.Test.YtbgbblgdbcjibaaPx7
import Derived.Test.YtbgbblgdbcjibaaPx8
import Derived.Test.YtbgbblgdbcjibaaPx27
import Derived.Test.YtbgbblgdbcjibaaPx29
import Derived.Test.YtbgbblgdbcjibaaPx30
namespace Go.Proofs.Ytbgbblgdbcjibaa.P
open Go.Shelf Go.RowKit Go.Proofs.YtbgbblgdbcjibaaW.PrintWords Go.Proofs.YtbgbblgdbcjibaaW.PrintLast Go.Proofs.YtbgbblgdbcjibaaW.PrintMore
attribute [local go_sem] max2_int min2_int max_two min_two max_three min_three max_four min_four
set_option linter.unusedVariables false
set_option linter.unusedSimpArgs false
set_option maxHeartbeats 8000000
set_option maxRecDepth 100000
mutual
def laws_FnExactMatrixOfLinear.j0 : Nat → List Int → List Int → Int → List Int → List Int → Int → Bool → Int → Int → Int → List Int → Int → List Int → Option (Bool)
  | 0, _, _, _, _, _, _, _, _, _, _, _, _, _ => none
  | k + 1, x1, x2, x8, x9, x10, x12, x54, x575000, x575001, x589000, x589001, x603000, x603001 => if x54 = true then (some false) else ((laws_toInt64S.f k x1).bind fun t604 => ((laws_eqInt64S.f k x9 t604).bind fun t607 => (if t607 = true then ((laws_toInt64S.f k x2).bind fun t608 => ((laws_eqInt64S.f k x10 t608).bind fun t611 => (if t611 = true then ((laws_markInt64S.f k x9 1).bind fun bt612 => ((laws_markInt64S.f k x10 bt612.1).bind fun bt614 => (if bt614.1 < 0 then (laws_FnExactMatrixOfLinear.j1 k x1 x2 x8 true x575000 x575001 x589000 x589001 x603000 x603001) else ((laws_eqMatrix.f k x603000 x603001 x589000 x589001).bind fun t616 => (if t616 = true then (laws_FnExactMatrixOfLinear.j1 k x1 x2 x8 (x12 != x8) x575000 x575001 x589000 x589001 x603000 x603001) else (laws_FnExactMatrixOfLinear.j1 k x1 x2 x8 true x575000 x575001 x589000 x589001 x603000 x603001)))))) else (some false)))) else (some false))))
def laws_FnExactMatrixOfLinear.j1 : Nat → List Int → List Int → Int → Bool → Int → Int → Int → List Int → Int → List Int → Option (Bool)
  | 0, _, _, _, _, _, _, _, _, _, _ => none
  | k + 1, x1, x2, x8, x83, x575000, x575001, x589000, x589001, x603000, x603001 => if x83 = true then (some false) else ((laws_markMatrix.f k x603000 x603001 1).bind fun bt617 => ((laws_heldMatrix.f k x603000 bt617.2 1).bind fun t619 => (if t619 < 0 then (some false) else (if t619 = bt617.1 then ((laws_toField.f x575000 x575001).bind fun bt620 => ((laws_toInt64S.f k x1).bind fun t622 => ((laws_toInt64S.f k x2).bind fun t625 => ((impl_MatrixOfLinear.f k bt620.1 bt620.2 t622 t625).bind fun bt628 => ((laws_eqMatrix.f k bt628.1 bt628.2.1 x589000 x589001).bind fun t634 => (if t634 = true then (laws_FnExactMatrixOfLinear.j2 k bt617.1 (bt628.2.2 != x8) x603000 bt617.2) else (laws_FnExactMatrixOfLinear.j2 k bt617.1 true x603000 bt617.2))))))) else (some false)))))
def laws_FnExactMatrixOfLinear.j2 : Nat → Int → Bool → Int → List Int → Option (Bool)
  | 0, _, _, _, _ => none
  | k + 1, x14, x113, x603000, x603001 => if x113 = true then (some false) else ((laws_heldMatrix.f k x603000 x603001 1).bind fun t635 => (if t635 < 0 then (some false) else (if t635 = x14 then (some true) else (some false))))
end
def laws_FnExactMatrixOfLinear.f (k : Nat) (a0_0 : Int) (a0_1 : Int) (l1 : List Int) (l2 : List Int) : Option (Bool) := if (l1.length : Int) > 1048576 then (some true) else (if (l2.length : Int) > 1048576 then (some true) else ((laws_toField.f a0_0 a0_1).bind fun bt575 => ((laws_toInt64S.f k l1).bind fun t577 => ((laws_toInt64S.f k l2).bind fun t580 => ((spec_MatrixOfLinear.f k bt575.1 bt575.2 t577 t580).bind fun bt583 => ((laws_toInt64S.f k l1).bind fun t589 => ((laws_toInt64S.f k l2).bind fun t592 => ((laws_toField.f a0_0 a0_1).bind fun bt595 => ((impl_MatrixOfLinear.f k bt595.1 bt595.2 t589 t592).bind fun bt597 => ((laws_eqMatrix.f k bt597.1 bt597.2.1 bt583.1 bt583.2.1).bind fun t603 => (if t603 = true then (laws_FnExactMatrixOfLinear.j0 k l1 l2 bt583.2.2 t589 t592 bt597.2.2 (bt597.2.2 != bt583.2.2) a0_0 a0_1 bt583.1 bt583.2.1 bt597.1 bt597.2.1) else (laws_FnExactMatrixOfLinear.j0 k l1 l2 bt583.2.2 t589 t592 bt597.2.2 true a0_0 a0_1 bt583.1 bt583.2.1 bt597.1 bt597.2.1))))))))))))
theorem laws_FnExactMatrixOfLinear.mono_l : ∀ k, (∀ y0 y1 y2 y3 y4 y5 y6 y7 y8 y9 y10 y11 y12, LeO (laws_FnExactMatrixOfLinear.j0 k y0 y1 y2 y3 y4 y5 y6 y7 y8 y9 y10 y11 y12) (laws_FnExactMatrixOfLinear.j0 (k + 1) y0 y1 y2 y3 y4 y5 y6 y7 y8 y9 y10 y11 y12)) ∧ (∀ y0 y1 y2 y3 y4 y5 y6 y7 y8 y9, LeO (laws_FnExactMatrixOfLinear.j1 k y0 y1 y2 y3 y4 y5 y6 y7 y8 y9) (laws_FnExactMatrixOfLinear.j1 (k + 1) y0 y1 y2 y3 y4 y5 y6 y7 y8 y9)) ∧ (∀ y0 y1 y2 y3, LeO (laws_FnExactMatrixOfLinear.j2 k y0 y1 y2 y3) (laws_FnExactMatrixOfLinear.j2 (k + 1) y0 y1 y2 y3))
 | 0 => ⟨fun _ _ _ _ _ _ _ _ _ _ _ _ _ r h => by simp [laws_FnExactMatrixOfLinear.j0] at h, fun _ _ _ _ _ _ _ _ _ _ r h => by simp [laws_FnExactMatrixOfLinear.j1] at h, fun _ _ _ _ r h => by simp [laws_FnExactMatrixOfLinear.j2] at h⟩
 | k + 1 => by
  obtain ⟨ih0, ih1, ih2⟩ := laws_FnExactMatrixOfLinear.mono_l k
  refine ⟨?_, ?_, ?_⟩ <;> intros <;> first | unfold laws_FnExactMatrixOfLinear.j0 | unfold laws_FnExactMatrixOfLinear.j1 | unfold laws_FnExactMatrixOfLinear.j2
  all_goals repeat' first
   | (with_reducible first | apply ih0 | apply ih1 | apply ih2 | apply impl_MatrixOfLinear.mono | apply laws_eqInt64S.mono | apply laws_eqMatrix.mono | apply laws_heldMatrix.mono | apply laws_markInt64S.mono | apply laws_markMatrix.mono | apply laws_toInt64S.mono | apply spec_MatrixOfLinear.mono | exact LeO.refl _ | exact LeO.none _ | refine LeO.ite ?_ ?_ | refine LeO.bind ?_ (fun _ => ?_))
   | exact LeO.none _
   | refine LeO.ite ?_ ?_
   | refine LeO.bind ?_ (fun _ => ?_)
theorem laws_FnExactMatrixOfLinear.mono : ∀ a0 a1 a2 a3 k, LeO (laws_FnExactMatrixOfLinear.f k a0 a1 a2 a3) (laws_FnExactMatrixOfLinear.f (k + 1) a0 a1 a2 a3) := by
 intro a0 a1 a2 a3 k
 obtain ⟨ih0, ih1, ih2⟩ := laws_FnExactMatrixOfLinear.mono_l k
 unfold laws_FnExactMatrixOfLinear.f
 repeat' first
  | (with_reducible first | apply ih0 | apply ih1 | apply ih2 | apply impl_MatrixOfLinear.mono | apply laws_eqInt64S.mono | apply laws_eqMatrix.mono | apply laws_heldMatrix.mono | apply laws_markInt64S.mono | apply laws_markMatrix.mono | apply laws_toInt64S.mono | apply spec_MatrixOfLinear.mono | exact LeO.refl _ | exact LeO.none _ | refine LeO.ite ?_ ?_ | refine LeO.bind ?_ (fun _ => ?_))
  | exact LeO.none _
  | refine LeO.ite ?_ ?_
  | refine LeO.bind ?_ (fun _ => ?_)
theorem laws_FnExactMatrixOfLinear.calls (k : Nat) (a0_0 : Int) (a0_1 : Int) (A1 : Option Addr) (c1 : Nat) (l1 : List Int) (A2 : Option Addr) (c2 : Nat) (l2 : List Int) (r : Bool) (w : World) (hr1 : Kd.C (Kd.int .i64) w A1 l1.length l1) (hc1 : l1.length ≤ c1) (hr2 : Kd.C (Kd.int .i64) w A2 l2.length l2) (hc2 : l2.length ≤ c2) (h : laws_FnExactMatrixOfLinear.f k a0_0 a0_1 l1 l2 = some r) :
 Calls Try.prog 8 #[.agg #[.int .i64 a0_0, .int .i64 a0_1], .slice A1 l1.length c1, .slice A2 l2.length c2] w fun e w' => e = .returned (.bool r) ∧ Below w.heap.size w w' := by
 have hu23 := Try.underlying23
 have hu41 := Try.underlying41
 have HR1 := Aq.mk hr1
 have HC1 := Aq.mk hc1
 clear hr1 hc1
 have HR2 := Aq.mk hr2
 have HC2 := Aq.mk hc2
 clear hr2 hc2
 have HB := Aq.mk (Below.refl w.heap.size w)
 have H : (if (l1.length : Int) > 1048576 then (some true) else (if (l2.length : Int) > 1048576 then (some true) else ((laws_toField.f a0_0 a0_1).bind fun bt575 => ((laws_toInt64S.f k l1).bind fun t577 => ((laws_toInt64S.f k l2).bind fun t580 => ((spec_MatrixOfLinear.f k bt575.1 bt575.2 t577 t580).bind fun bt583 => ((laws_toInt64S.f k l1).bind fun t589 => ((laws_toInt64S.f k l2).bind fun t592 => ((laws_toField.f a0_0 a0_1).bind fun bt595 => ((impl_MatrixOfLinear.f k bt595.1 bt595.2 t589 t592).bind fun bt597 => ((laws_eqMatrix.f k bt597.1 bt597.2.1 bt583.1 bt583.2.1).bind fun t603 => (if t603 = true then (laws_FnExactMatrixOfLinear.j0 k l1 l2 bt583.2.2 t589 t592 bt597.2.2 (bt597.2.2 != bt583.2.2) a0_0 a0_1 bt583.1 bt583.2.1 bt597.1 bt597.2.1) else (laws_FnExactMatrixOfLinear.j0 k l1 l2 bt583.2.2 t589 t592 bt597.2.2 true a0_0 a0_1 bt583.1 bt583.2.1 bt597.1 bt597.2.1))))))))))))) = some r := h
 clear h
 by_cases c4 : (l1.length : Int) > 1048576
 ·rw [if_pos c4] at H
  have c4b0 := decide_eq_true c4
  have c4b1 : decide (1048576 < l1.length) = true := decide_eq_true (by omega)
  clear c4
  obtain rfl := Option.some.inj H
  go_enter Try.func8, Try.ntmps8
  go_wp2_with (first | ((with_reducible refine gQd (N := 3) rfl ?_); refine xQe ?hg (N := 3) ?hd (cs := #[.int .i64 a0_0, .int .i64 a0_1]) (t := 23) ?hr ?_; (case hd => rfl); (case hg => rfl); (case hr => exact tH); intro gb574 hg w5 hbox hb; refine qM4 (bQT tB hb) hbox (tZ w hg) (tZ w hg) ?_; clear HB; intro HB BK574 GW574 GE574; clear hb hbox hg))
  go_ret
  exact ⟨tE, tB⟩
 rw [if_neg c4] at H
 have c4b0 := decide_eq_false c4
 have c4b1 : decide (1048576 < l1.length) = false := decide_eq_false (by omega)
 clear c4
 by_cases c6 : (l2.length : Int) > 1048576
 ·rw [if_pos c6] at H
  have c6b0 := decide_eq_true c6
  have c6b1 : decide (1048576 < l2.length) = true := decide_eq_true (by omega)
  clear c6
  obtain rfl := Option.some.inj H
  go_enter Try.func8, Try.ntmps8
  go_wp2_with (first | ((with_reducible refine gQd (N := 3) rfl ?_); refine xQe ?hg (N := 3) ?hd (cs := #[.int .i64 a0_0, .int .i64 a0_1]) (t := 23) ?hr ?_; (case hd => rfl); (case hg => rfl); (case hr => exact tH); intro gb574 hg w7 hbox hb; refine qM4 (bQT tB hb) hbox (tZ w hg) (tZ w hg) ?_; clear HB; intro HB BK574 GW574 GE574; clear hb hbox hg))
  go_ret
  exact ⟨tE, tB⟩
 rw [if_neg c6] at H
 have c6b0 := decide_eq_false c6
 have c6b1 : decide (1048576 < l2.length) = false := decide_eq_false (by omega)
 clear c6
 obtain ⟨⟨t575, t576⟩, A8, H⟩ := qBd H
 (try dsimp only at H)
 obtain ⟨t577, A9, H⟩ := qBd H
 obtain ⟨t580, A10, H⟩ := qBd H
 obtain ⟨⟨t583, t584, t587⟩, A11, H⟩ := qBd H
 (try dsimp only at H)
 obtain ⟨t589, A12, H⟩ := qBd H
 obtain ⟨t592, A13, H⟩ := qBd H
 obtain ⟨⟨t595, t596⟩, A14, H⟩ := qBd H
 (try dsimp only at H)
 obtain ⟨⟨t597, t598, t601⟩, A15, H⟩ := qBd H
 (try dsimp only at H)
 have HC16 := Aq.mk H
 clear H
 go_enter Try.func8, Try.ntmps8
 go_upto_region 9 with (first | ((with_reducible refine gQd (N := 3) rfl ?_); refine xQe ?hg (N := 3) ?hd (cs := #[.int .i64 a0_0, .int .i64 a0_1]) (t := 23) ?hr ?_; (case hd => rfl); (case hg => rfl); (case hr => exact tH); intro gb574 hg w17 hbox hb; refine qM4 (bQT tB hb) hbox (tZ w hg) (tZ w hg) ?_; clear HB; intro HB BK574 GW574 GE574; clear hb hbox hg; have hcz18_0 : w17.cell? ⟨gb574, 0, none⟩ = some (.int .i64 a0_0) := (kQC BK574.out 0).trans rfl; have hcz18_1 : w17.cell? ⟨gb574, 1, none⟩ = some (.int .i64 a0_1) := (kQC BK574.out 1).trans rfl; have hfz18_0 := kQF BK574.out 0; have hfz18_1 := kQF BK574.out 1) | ((with_reducible refine gQc (f := 10) rfl ?_); refine goesL_ (some 26) rfl rfl Try.func10 (by kernel_rfl) rfl #[.agg #[.int .i64 a0_0, .int .i64 a0_1]] rfl tL ?_; (with_reducible refine (laws_toField.calls a0_0 a0_1 t575 t576 _ A8.out).mono ?_); rintro e w19 ⟨rfl, hb⟩; refine ⟨_, rfl, ?_⟩; refine qM2 (tQ BK574.out hb) (bQT tB hb) ?_; clear BK574 HB; intro BK574 HB; (try clear hb); (try clear hb2); (try clear hk); (try clear hi)) | ((with_reducible refine gQc (f := 18) rfl ?_); refine goesL_ (some 28) rfl rfl Try.func18 (by kernel_rfl) rfl #[.slice A1 l1.length c1] rfl tL ?_; (with_reducible refine (laws_toInt64S.calls k _ _ l1 t577 _ ?s1 ?s2 A9.out).mono ?_); (case s1 => exact tC ((Kd.C_below HR1.out HB.out))); (case s2 => exact HC1.out); rintro e w20 ⟨v578, rfl, ho0, hb⟩; refine ⟨_, rfl, ?_⟩; refine qM3 (Kd.R_lower ho0 (bQZ tB)) (tQ BK574.out hb) (bQT tB hb) ?_; clear BK574 HB; intro HO579 BK574 HB; (try clear hb); (try clear hb2); (try clear hk); (try clear hi); (try clear ho0)) | ((with_reducible refine gQc (f := 18) rfl ?_); refine goesL_ (some 30) rfl rfl Try.func18 (by kernel_rfl) rfl #[.slice A2 l2.length c2] rfl tL ?_; (with_reducible refine (laws_toInt64S.calls k _ _ l2 t580 _ ?s1 ?s2 A10.out).mono ?_); (case s1 => exact tC ((Kd.C_below HR2.out HB.out))); (case s2 => exact HC2.out); rintro e w21 ⟨v581, rfl, ho0, hb⟩; refine ⟨_, rfl, ?_⟩; refine qM4 (Kd.R_elder' (tR HO579.out) (Kd.R_base ho0) hb) (Kd.R_lower (Kd.R_new' ho0 (Kd.R_lt (tR HO579.out))) (bQZ tB)) (tQ BK574.out hb) (bQT tB hb) ?_; clear HO579 BK574 HB; intro HO579 HO582 BK574 HB; (try clear hb); (try clear hb2); (try clear hk); (try clear hi); (try clear ho0); obtain ⟨Ao22, co22, eo22⟩ := Kd.R_slice HO579.out; subst eo22; obtain ⟨Ao23, co23, eo23⟩ := Kd.R_slice HO582.out; subst eo23) | ((with_reducible refine gQc (f := 24) rfl ?_); refine goesL_ (some 31) rfl rfl Try.func24 (by kernel_rfl) rfl #[.agg #[.int .i64 t575, .int .i64 t576], .slice Ao22 t577.length co22, .slice Ao23 t580.length co23] rfl tL ?_; (with_reducible refine (spec_MatrixOfLinear.calls k t575 t576 _ _ t577 _ _ t580 t583 t584 t587 _ ?s1 ?s2 ?s3 ?s4 A11.out).mono ?_); (case s1 => exact tC ((Kd.R_reads' HO579.out).2.2)); (case s2 => exact (Kd.R_reads' HO579.out).2.1); (case s3 => exact tC ((Kd.R_reads' HO582.out).2.2)); (case s4 => exact (Kd.R_reads' HO582.out).2.1); rintro e w24 ⟨v585, rfl, ho0, hb⟩; refine ⟨_, rfl, ?_⟩; refine qM5 (Kd.R_elder' (tR HO579.out) (Kd.R_base ho0) hb) (Kd.R_elder' (tR HO582.out) (Kd.R_base ho0) hb) (Kd.R_lower (Kd.R_new' (Kd.R_new' ho0 (Kd.R_lt (tR HO579.out))) (Kd.R_lt (tR HO582.out))) (bQZ tB)) (tQ BK574.out hb) (bQT tB hb) ?_; clear HO579 HO582 BK574 HB; intro HO579 HO582 HO586 BK574 HB; (try clear hb); (try clear hb2); (try clear hk); (try clear hi); (try clear ho0)) | ((with_reducible refine gQd (N := 7) rfl ?_); refine xQe ?hg (N := 7) ?hd (cs := #[.int .i64 0, .slice none 0 0]) (t := 41) ?hr ?_; (case hd => rfl); (case hg => rfl); (case hr => exact tH); intro gb588 hg w25 hbox hb; refine qM10 (Kd.R_below (tR HO579.out) hb) (Kd.R_below (tR HO582.out) hb) (Kd.R_below (tR HO586.out) hb) (tQ BK574.out hb) (bQT tB hb) hbox (tZ w hg) (tZ w hg) ((by rw [hg]; exact Nat.ne_of_lt (blk_lt (g := gb574) (o := .cells #[.int .i64 a0_0, .int .i64 a0_1] 23 (0, 0)) (tG BK574.out)) : gb574 ≠ gb588)) ((by rw [hg]; exact Nat.ne_of_gt (blk_lt (g := gb574) (o := .cells #[.int .i64 a0_0, .int .i64 a0_1] 23 (0, 0)) (tG BK574.out)) : gb588 ≠ gb574)) ?_; clear HO579 HO582 HO586 BK574 HB; intro HO579 HO582 HO586 BK574 HB BK588 GW588 GE588 NB574_588 NB588_574; clear hb hbox hg; have hnb26 := NB588_574.out; have hnc26 := NB574_588.out; have hcz27_0 : w25.cell? ⟨gb588, 0, none⟩ = some (.int .i64 0) := (kQC BK588.out 0).trans rfl; have hcz27_1 : w25.cell? ⟨gb588, 1, none⟩ = some (.slice none 0 0) := (kQC BK588.out 1).trans rfl; have hfz27_0 := kQF BK588.out 0; have hfz27_1 := kQF BK588.out 1; obtain ⟨Ao28, co28, eo28⟩ := Kd.R_slice HO586.out; subst eo28) | ((with_reducible refine gQc (f := 18) rfl ?_); refine goesL_ (some 35) rfl rfl Try.func18 (by kernel_rfl) rfl #[.slice A1 l1.length c1] rfl tL ?_; (with_reducible refine (laws_toInt64S.calls k _ _ l1 t589 _ ?s1 ?s2 A12.out).mono ?_); (case s1 => exact Kd.C_below HR1.out tB); (case s2 => exact HC1.out); rintro e w29 ⟨v590, rfl, ho0, hb⟩; refine ⟨_, rfl, ?_⟩; refine qM7 (Kd.R_elder' (by (with_reducible repeat (first | apply Kd.RqA | apply Kd.RqN | apply Kd.RqD)); exact (Kd.R_mono (Kd.R_far (p := ⟨gb588, 1, none⟩) (Kd.R_far (p := ⟨gb588, 0, none⟩) (Kd.R_types HO579.out BK588.out (by decide)) (fun _ hk => hk.2) (.int .i64 t583)) (fun _ hk => hk.2) (.slice Ao28 t584.length co28)) (fun _ h_ => h_.1))) (Kd.R_base ho0) hb) (Kd.R_elder' (by (with_reducible repeat (first | apply Kd.RqA | apply Kd.RqN | apply Kd.RqD)); exact (Kd.R_mono (Kd.R_far (p := ⟨gb588, 1, none⟩) (Kd.R_far (p := ⟨gb588, 0, none⟩) (Kd.R_types HO582.out BK588.out (by decide)) (fun _ hk => hk.2) (.int .i64 t583)) (fun _ hk => hk.2) (.slice Ao28 t584.length co28)) (fun _ h_ => h_.1))) (Kd.R_base ho0) hb) (Kd.R_elder' (by (with_reducible repeat (first | apply Kd.RqA | apply Kd.RqN | apply Kd.RqD)); exact (Kd.R_mono (Kd.R_far (p := ⟨gb588, 1, none⟩) (Kd.R_far (p := ⟨gb588, 0, none⟩) (Kd.R_types HO586.out BK588.out (by decide)) (fun _ hk => hk.2) (.int .i64 t583)) (fun _ hk => hk.2) (.slice Ao28 t584.length co28)) (fun _ h_ => h_.1))) (Kd.R_base ho0) hb) (Kd.R_lower (Kd.R_new' (Kd.R_new' (Kd.R_new' ho0 (Kd.R_lt (by (with_reducible repeat (first | apply Kd.RqA | apply Kd.RqN | apply Kd.RqD)); exact (Kd.R_mono (Kd.R_far (p := ⟨gb588, 1, none⟩) (Kd.R_far (p := ⟨gb588, 0, none⟩) (Kd.R_types HO579.out BK588.out (by decide)) (fun _ hk => hk.2) (.int .i64 t583)) (fun _ hk => hk.2) (.slice Ao28 t584.length co28)) (fun _ h_ => h_.1))))) (Kd.R_lt (by (with_reducible repeat (first | apply Kd.RqA | apply Kd.RqN | apply Kd.RqD)); exact (Kd.R_mono (Kd.R_far (p := ⟨gb588, 1, none⟩) (Kd.R_far (p := ⟨gb588, 0, none⟩) (Kd.R_types HO582.out BK588.out (by decide)) (fun _ hk => hk.2) (.int .i64 t583)) (fun _ hk => hk.2) (.slice Ao28 t584.length co28)) (fun _ h_ => h_.1))))) (Kd.R_lt (by (with_reducible repeat (first | apply Kd.RqA | apply Kd.RqN | apply Kd.RqD)); exact (Kd.R_mono (Kd.R_far (p := ⟨gb588, 1, none⟩) (Kd.R_far (p := ⟨gb588, 0, none⟩) (Kd.R_types HO586.out BK588.out (by decide)) (fun _ hk => hk.2) (.int .i64 t583)) (fun _ hk => hk.2) (.slice Ao28 t584.length co28)) (fun _ h_ => h_.1))))) (bQZ tB)) (kQB (g := gb574) (o := .cells #[.int .i64 a0_0, .int .i64 a0_1] 23 (0, 0)) (by (with_reducible repeat (first | refine kQN ?_ _ | refine kQD ?_ | refine kQA ?_ _)); refine kQR ?_ NB574_588.out _; (with_reducible repeat (first | refine kQN ?_ _ | refine kQD ?_ | refine kQA ?_ _)); refine kQR ?_ NB574_588.out _; (with_reducible repeat (first | refine kQN ?_ _ | refine kQD ?_ | refine kQA ?_ _)); exact BK574.out) hb) (kQB (g := gb588) (o := .cells #[.int .i64 t583, .slice Ao28 t584.length co28] 41 (0, 0)) (by (with_reducible repeat (first | refine kQN ?_ _ | refine kQD ?_ | refine kQA ?_ _)); refine kQP (cs := #[.int .i64 t583, .slice none 0 0]) ?_ 1 _ rfl; (with_reducible repeat (first | refine kQN ?_ _ | refine kQD ?_ | refine kQA ?_ _)); refine kQP (cs := #[.int .i64 0, .slice none 0 0]) ?_ 0 _ rfl; (with_reducible repeat (first | refine kQN ?_ _ | refine kQD ?_ | refine kQA ?_ _)); exact BK588.out) hb) (bQT tB hb) ?_; clear HO579 HO582 HO586 BK574 BK588 HB; intro HO579 HO582 HO586 HO591 BK574 BK588 HB; (try clear hb); (try clear hb2); (try clear hk); (try clear hi); (try clear ho0)) | ((with_reducible refine gQc (f := 18) rfl ?_); refine goesL_ (some 37) rfl rfl Try.func18 (by kernel_rfl) rfl #[.slice A2 l2.length c2] rfl tL ?_; (with_reducible refine (laws_toInt64S.calls k _ _ l2 t592 _ ?s1 ?s2 A13.out).mono ?_); (case s1 => exact tC ((Kd.C_below HR2.out HB.out))); (case s2 => exact HC2.out); rintro e w30 ⟨v593, rfl, ho0, hb⟩; refine ⟨_, rfl, ?_⟩; refine qM8 (Kd.R_elder' (tR HO579.out) (Kd.R_base ho0) hb) (Kd.R_elder' (tR HO582.out) (Kd.R_base ho0) hb) (Kd.R_elder' (tR HO586.out) (Kd.R_base ho0) hb) (Kd.R_elder' (tR HO591.out) (Kd.R_base ho0) hb) (Kd.R_lower (Kd.R_new' (Kd.R_new' (Kd.R_new' (Kd.R_new' ho0 (Kd.R_lt (tR HO579.out))) (Kd.R_lt (tR HO582.out))) (Kd.R_lt (tR HO586.out))) (Kd.R_lt (tR HO591.out))) (bQZ tB)) (tQ BK574.out hb) (tQ BK588.out hb) (bQT tB hb) ?_; clear HO579 HO582 HO586 HO591 BK574 BK588 HB; intro HO579 HO582 HO586 HO591 HO594 BK574 BK588 HB; (try clear hb); (try clear hb2); (try clear hk); (try clear hi); (try clear ho0); have hcz31_0 : w30.cell? ⟨gb574, 0, none⟩ = some (.int .i64 a0_0) := (kQC BK574.out 0).trans rfl; have hcz31_1 : w30.cell? ⟨gb574, 1, none⟩ = some (.int .i64 a0_1) := (kQC BK574.out 1).trans rfl; have hfz31_0 := kQF BK574.out 0; have hfz31_1 := kQF BK574.out 1) | ((with_reducible refine gQc (f := 10) rfl ?_); refine goesL_ (some 40) rfl rfl Try.func10 (by kernel_rfl) rfl #[.agg #[.int .i64 a0_0, .int .i64 a0_1]] rfl tL ?_; (with_reducible refine (laws_toField.calls a0_0 a0_1 t595 t596 _ A14.out).mono ?_); rintro e w32 ⟨rfl, hb⟩; refine ⟨_, rfl, ?_⟩; refine qM8 (Kd.R_below (tR HO579.out) hb) (Kd.R_below (tR HO582.out) hb) (Kd.R_below (tR HO586.out) hb) (Kd.R_below (tR HO591.out) hb) (Kd.R_below (tR HO594.out) hb) (tQ BK574.out hb) (tQ BK588.out hb) (bQT tB hb) ?_; clear HO579 HO582 HO586 HO591 HO594 BK574 BK588 HB; intro HO579 HO582 HO586 HO591 HO594 BK574 BK588 HB; (try clear hb); (try clear hb2); (try clear hk); (try clear hi); obtain ⟨Ao33, co33, eo33⟩ := Kd.R_slice HO591.out; subst eo33; obtain ⟨Ao34, co34, eo34⟩ := Kd.R_slice HO594.out; subst eo34) | ((with_reducible refine gQc (f := 25) rfl ?_); refine goesL_ (some 43) rfl rfl Try.func25 (by kernel_rfl) rfl #[.agg #[.int .i64 t595, .int .i64 t596], .slice Ao33 t589.length co33, .slice Ao34 t592.length co34] rfl tL ?_; (with_reducible refine (impl_MatrixOfLinear.calls k t595 t596 _ _ t589 (fun k_ => some k_ = (.slice Ao34 t592.length co34 : Value).ownBlock) _ _ t592 t597 t598 t601 _ ?s1 ?s2 ?s3 A15.out).mono ?_); (case s1 => exact tC ((Kd.R_reads' HO591.out).2.2)); (case s2 => exact (Kd.R_reads' HO591.out).2.1); (case s3 => exact Kd.R_V (Kd.R_tight rfl (Kd.R_types (Kd.R_types (HO594.out) BK574.out (by decide)) BK588.out (by decide)))); rintro e w35 ⟨v599, rfl, ho0, hb⟩; refine ⟨_, rfl, ?_⟩; refine qM9 (Kd.R_elder' (tR HO579.out) (Kd.R_base ho0) hb) (Kd.R_elder' (tR HO582.out) (Kd.R_base ho0) hb) (Kd.R_elder' (tR HO586.out) (Kd.R_base ho0) hb) (Kd.R_elder' (tR HO591.out) (Kd.R_base ho0) hb) (Kd.R_elder' (tR HO594.out) (Kd.R_base ho0) hb) (Kd.R_lower (Kd.R_new' (Kd.R_new' (Kd.R_new' (Kd.R_new' (Kd.R_new' (Kd.R_mono (ok' := fun k_ => True) ho0 (fun _ hk_ => trivial)) (Kd.R_lt (tR HO579.out))) (Kd.R_lt (tR HO582.out))) (Kd.R_lt (tR HO586.out))) (Kd.R_lt (tR HO591.out))) (Kd.R_lt (tR HO594.out))) (bQZ tB)) (tQ BK574.out hb) (tQ BK588.out hb) (bQT tB hb) ?_; clear HO579 HO582 HO586 HO591 HO594 BK574 BK588 HB; intro HO579 HO582 HO586 HO591 HO594 HO600 BK574 BK588 HB; (try clear hb); (try clear hb2); (try clear hk); (try clear hi); (try clear ho0)) | ((with_reducible refine gQd (N := 11) rfl ?_); refine xQe ?hg (N := 11) ?hd (cs := #[.int .i64 0, .slice none 0 0]) (t := 41) ?hr ?_; (case hd => rfl); (case hg => rfl); (case hr => exact tH); intro gb602 hg w36 hbox hb; refine qM16 (Kd.R_below (tR HO579.out) hb) (Kd.R_below (tR HO582.out) hb) (Kd.R_below (tR HO586.out) hb) (Kd.R_below (tR HO591.out) hb) (Kd.R_below (tR HO594.out) hb) (Kd.R_below (tR HO600.out) hb) (tQ BK574.out hb) (tQ BK588.out hb) (bQT tB hb) hbox (tZ w hg) (tZ w hg) ((by rw [hg]; exact Nat.ne_of_lt (blk_lt (g := gb574) (o := .cells #[.int .i64 a0_0, .int .i64 a0_1] 23 (0, 0)) (tG BK574.out)) : gb574 ≠ gb602)) ((by rw [hg]; exact Nat.ne_of_gt (blk_lt (g := gb574) (o := .cells #[.int .i64 a0_0, .int .i64 a0_1] 23 (0, 0)) (tG BK574.out)) : gb602 ≠ gb574)) ((by rw [hg]; exact Nat.ne_of_lt (blk_lt (g := gb588) (o := .cells #[.int .i64 t583, .slice Ao28 t584.length co28] 41 (0, 0)) (tG BK588.out)) : gb588 ≠ gb602)) ((by rw [hg]; exact Nat.ne_of_gt (blk_lt (g := gb588) (o := .cells #[.int .i64 t583, .slice Ao28 t584.length co28] 41 (0, 0)) (tG BK588.out)) : gb602 ≠ gb588)) ?_; clear HO579 HO582 HO586 HO591 HO594 HO600 BK574 BK588 HB; intro HO579 HO582 HO586 HO591 HO594 HO600 BK574 BK588 HB BK602 GW602 GE602 NB574_602 NB602_574 NB588_602 NB602_588; clear hb hbox hg; have hnb37 := NB602_574.out; have hnc37 := NB574_602.out; have hnb38 := NB602_588.out; have hnc38 := NB588_602.out; have hcz39_0 : w36.cell? ⟨gb602, 0, none⟩ = some (.int .i64 0) := (kQC BK602.out 0).trans rfl; have hcz39_1 : w36.cell? ⟨gb602, 1, none⟩ = some (.slice none 0 0) := (kQC BK602.out 1).trans rfl; have hfz39_0 := kQF BK602.out 0; have hfz39_1 := kQF BK602.out 1; obtain ⟨Ao40, co40, eo40⟩ := Kd.R_slice HO600.out; subst eo40))
 (try simp only [Act.put, qSa, qSb, qSc])
 go_cut [54] (fun v54 wc => ∃ (kq : Nat) (x54_15 : Bool), v54 = .bool x54_15 ∧ Aq (laws_FnExactMatrixOfLinear.j0 kq l1 l2 t587 t589 t592 t601 x54_15 a0_0 a0_1 t583 t584 t597 t598 = some r) ∧ Aq (kq ≤ k) ∧ Aq (Kd.R (Kd.int .i64) 2 wc w.heap.size (fun k_ => some k_ ≠ ((.slice Ao34 t592.length co34) : Value).ownBlock ∧ some k_ ≠ ((.slice Ao28 t584.length co28) : Value).ownBlock ∧ some k_ ≠ ((.slice Ao40 t598.length co40) : Value).ownBlock) (.slice Ao33 t589.length co33) t589) ∧ Aq (Kd.R (Kd.int .i64) 2 wc w.heap.size (fun k_ => some k_ ≠ ((.slice Ao33 t589.length co33) : Value).ownBlock ∧ some k_ ≠ ((.slice Ao28 t584.length co28) : Value).ownBlock ∧ some k_ ≠ ((.slice Ao40 t598.length co40) : Value).ownBlock) (.slice Ao34 t592.length co34) t592) ∧ Aq (Kd.R (Kd.int .i64) 2 wc w.heap.size (fun k_ => some k_ ≠ ((.slice Ao33 t589.length co33) : Value).ownBlock ∧ some k_ ≠ ((.slice Ao34 t592.length co34) : Value).ownBlock ∧ some k_ ≠ ((.slice Ao40 t598.length co40) : Value).ownBlock) (.slice Ao28 t584.length co28) t584) ∧ Aq (Kd.R (Kd.int .i64) 2 wc w.heap.size (fun k_ => some k_ ≠ ((.slice Ao33 t589.length co33) : Value).ownBlock ∧ some k_ ≠ ((.slice Ao34 t592.length co34) : Value).ownBlock ∧ some k_ ≠ ((.slice Ao28 t584.length co28) : Value).ownBlock) (.slice Ao40 t598.length co40) t598) ∧ Aq (wc.heap[gb574]? = some (.cells #[.int .i64 a0_0, .int .i64 a0_1] 23 (0, 0))) ∧ Aq (wc.heap[gb588]? = some (.cells #[.int .i64 t583, (.slice Ao28 t584.length co28)] 41 (0, 0))) ∧ Aq (wc.heap[gb602]? = some (.cells #[.int .i64 t597, (.slice Ao40 t598.length co40)] 41 (0, 0))) ∧ Aq (Below w.heap.size w wc))
 case first =>
  have H := HC16.out
  clear HC16
  obtain ⟨t603, A41, H⟩ := qBd H
  by_cases c42 : t603 = true
  ·subst c42
   rw [if_pos rfl] at H
   replace H' := Aq.mk H
   clear H
   have hnb43 := NB602_574.out
   have hnc43 := NB574_602.out
   have hnb44 := NB602_588.out
   have hnc44 := NB588_602.out
   have hcz45_0 : w36.cell? ⟨gb602, 0, none⟩ = some (.int .i64 0) := (kQC BK602.out 0).trans rfl
   have hcz45_1 : w36.cell? ⟨gb602, 1, none⟩ = some (.slice none 0 0) := (kQC BK602.out 1).trans rfl
   have hfz45_0 := kQF BK602.out 0
   have hfz45_1 := kQF BK602.out 1
   have hnb46 := NB588_574.out
   have hnc46 := NB574_588.out
   have hcz47_0 : w36.cell? ⟨gb588, 0, none⟩ = some (.int .i64 t583) := (kQC BK588.out 0).trans rfl
   have hcz47_1 : w36.cell? ⟨gb588, 1, none⟩ = some (.slice Ao28 t584.length co28) := (kQC BK588.out 1).trans rfl
   have hfz47_0 := kQF BK588.out 0
   have hfz47_1 := kQF BK588.out 1
   go_wp2_with (first | ((with_reducible refine gQc (f := 26) rfl ?_); refine goesL_ (some 48) rfl rfl Try.func26 (by kernel_rfl) rfl #[.agg #[.int .i64 t597, .slice Ao40 t598.length co40], .agg #[.int .i64 t583, .slice Ao28 t584.length co28]] rfl tL ?_; (with_reducible refine (laws_eqMatrix.calls k t597 _ _ t598 t583 _ _ t584 true _ ?s1 ?s2 ?s3 ?s4 A41.out).mono ?_); (case s1 => refine (Kd.R_reads' (e := 2) (base := w.heap.size) (ok := fun k_ => (((((True ∧ some k_ ≠ (.slice Ao22 t577.length co22 : Value).ownBlock) ∧ some k_ ≠ (.slice Ao23 t580.length co23 : Value).ownBlock) ∧ some k_ ≠ (.slice Ao28 t584.length co28 : Value).ownBlock) ∧ some k_ ≠ (.slice Ao33 t589.length co33 : Value).ownBlock) ∧ some k_ ≠ (.slice Ao34 t592.length co34 : Value).ownBlock)) (n := t598.length) (c := co40) ?_).2.2; exact (by (with_reducible repeat (first | apply Kd.RqA | apply Kd.RqN | apply Kd.RqD)); exact (Kd.R_mono (Kd.R_far (p := ⟨gb602, 1, none⟩) (Kd.R_far (p := ⟨gb602, 0, none⟩) (Kd.R_types HO600.out BK602.out (by decide)) (fun _ hk => hk.2) (.int .i64 t597)) (fun _ hk => hk.2) (.slice Ao40 t598.length co40)) (fun _ h_ => h_.1)))); (case s2 => exact (Kd.R_reads' HO600.out).2.1); (case s3 => refine (Kd.R_reads' (e := 2) (base := w.heap.size) (ok := fun k_ => (((((True ∧ some k_ ≠ (.slice Ao22 t577.length co22 : Value).ownBlock) ∧ some k_ ≠ (.slice Ao23 t580.length co23 : Value).ownBlock) ∧ some k_ ≠ (.slice Ao33 t589.length co33 : Value).ownBlock) ∧ some k_ ≠ (.slice Ao34 t592.length co34 : Value).ownBlock) ∧ some k_ ≠ (.slice Ao40 t598.length co40 : Value).ownBlock)) (n := t584.length) (c := co28) ?_).2.2; exact (by (with_reducible repeat (first | apply Kd.RqA | apply Kd.RqN | apply Kd.RqD)); exact (Kd.R_mono (Kd.R_far (p := ⟨gb602, 1, none⟩) (Kd.R_far (p := ⟨gb602, 0, none⟩) (Kd.R_types HO586.out BK602.out (by decide)) (fun _ hk => hk.2) (.int .i64 t597)) (fun _ hk => hk.2) (.slice Ao40 t598.length co40)) (fun _ h_ => h_.1)))); (case s4 => exact (Kd.R_reads' HO586.out).2.1); rintro e w48 ⟨rfl, hb⟩; refine ⟨_, rfl, ?_⟩; refine qM10 (Kd.R_below (by (with_reducible repeat (first | apply Kd.RqA | apply Kd.RqN | apply Kd.RqD)); exact (Kd.R_mono (Kd.R_far (p := ⟨gb602, 1, none⟩) (Kd.R_far (p := ⟨gb602, 0, none⟩) (Kd.R_types HO579.out BK602.out (by decide)) (fun _ hk => hk.2) (.int .i64 t597)) (fun _ hk => hk.2) (.slice Ao40 t598.length co40)) (fun _ h_ => h_.1))) hb) (Kd.R_below (by (with_reducible repeat (first | apply Kd.RqA | apply Kd.RqN | apply Kd.RqD)); exact (Kd.R_mono (Kd.R_far (p := ⟨gb602, 1, none⟩) (Kd.R_far (p := ⟨gb602, 0, none⟩) (Kd.R_types HO582.out BK602.out (by decide)) (fun _ hk => hk.2) (.int .i64 t597)) (fun _ hk => hk.2) (.slice Ao40 t598.length co40)) (fun _ h_ => h_.1))) hb) (Kd.R_below (by (with_reducible repeat (first | apply Kd.RqA | apply Kd.RqN | apply Kd.RqD)); exact (Kd.R_mono (Kd.R_far (p := ⟨gb602, 1, none⟩) (Kd.R_far (p := ⟨gb602, 0, none⟩) (Kd.R_types HO586.out BK602.out (by decide)) (fun _ hk => hk.2) (.int .i64 t597)) (fun _ hk => hk.2) (.slice Ao40 t598.length co40)) (fun _ h_ => h_.1))) hb) (Kd.R_below (by (with_reducible repeat (first | apply Kd.RqA | apply Kd.RqN | apply Kd.RqD)); exact (Kd.R_mono (Kd.R_far (p := ⟨gb602, 1, none⟩) (Kd.R_far (p := ⟨gb602, 0, none⟩) (Kd.R_types HO591.out BK602.out (by decide)) (fun _ hk => hk.2) (.int .i64 t597)) (fun _ hk => hk.2) (.slice Ao40 t598.length co40)) (fun _ h_ => h_.1))) hb) (Kd.R_below (by (with_reducible repeat (first | apply Kd.RqA | apply Kd.RqN | apply Kd.RqD)); exact (Kd.R_mono (Kd.R_far (p := ⟨gb602, 1, none⟩) (Kd.R_far (p := ⟨gb602, 0, none⟩) (Kd.R_types HO594.out BK602.out (by decide)) (fun _ hk => hk.2) (.int .i64 t597)) (fun _ hk => hk.2) (.slice Ao40 t598.length co40)) (fun _ h_ => h_.1))) hb) (Kd.R_below (by (with_reducible repeat (first | apply Kd.RqA | apply Kd.RqN | apply Kd.RqD)); exact (Kd.R_mono (Kd.R_far (p := ⟨gb602, 1, none⟩) (Kd.R_far (p := ⟨gb602, 0, none⟩) (Kd.R_types HO600.out BK602.out (by decide)) (fun _ hk => hk.2) (.int .i64 t597)) (fun _ hk => hk.2) (.slice Ao40 t598.length co40)) (fun _ h_ => h_.1))) hb) (kQB (g := gb574) (o := .cells #[.int .i64 a0_0, .int .i64 a0_1] 23 (0, 0)) (by (with_reducible repeat (first | refine kQN ?_ _ | refine kQD ?_ | refine kQA ?_ _)); refine kQR ?_ NB574_602.out _; (with_reducible repeat (first | refine kQN ?_ _ | refine kQD ?_ | refine kQA ?_ _)); refine kQR ?_ NB574_602.out _; (with_reducible repeat (first | refine kQN ?_ _ | refine kQD ?_ | refine kQA ?_ _)); exact BK574.out) hb) (kQB (g := gb588) (o := .cells #[.int .i64 t583, .slice Ao28 t584.length co28] 41 (0, 0)) (by (with_reducible repeat (first | refine kQN ?_ _ | refine kQD ?_ | refine kQA ?_ _)); refine kQR ?_ NB588_602.out _; (with_reducible repeat (first | refine kQN ?_ _ | refine kQD ?_ | refine kQA ?_ _)); refine kQR ?_ NB588_602.out _; (with_reducible repeat (first | refine kQN ?_ _ | refine kQD ?_ | refine kQA ?_ _)); exact BK588.out) hb) (kQB (g := gb602) (o := .cells #[.int .i64 t597, .slice Ao40 t598.length co40] 41 (0, 0)) (by (with_reducible repeat (first | refine kQN ?_ _ | refine kQD ?_ | refine kQA ?_ _)); refine kQP (cs := #[.int .i64 t597, .slice none 0 0]) ?_ 1 _ rfl; (with_reducible repeat (first | refine kQN ?_ _ | refine kQD ?_ | refine kQA ?_ _)); refine kQP (cs := #[.int .i64 0, .slice none 0 0]) ?_ 0 _ rfl; (with_reducible repeat (first | refine kQN ?_ _ | refine kQD ?_ | refine kQA ?_ _)); exact BK602.out) hb) (bQT tB hb) ?_; clear HO579 HO582 HO586 HO591 HO594 HO600 BK574 BK588 BK602 HB; intro HO579 HO582 HO586 HO591 HO594 HO600 BK574 BK588 BK602 HB; (try clear hb); (try clear hb2); (try clear hk); (try clear hi)))
   go_meet
   case rel => exact ⟨_, ((t601 != t587)), tS, H', ⟨tO⟩, ⟨by (with_reducible repeat (first | apply Kd.RqA | apply Kd.RqN | apply Kd.RqD)); exact Kd.R_mono HO591.out (fun _ hk => ⟨hk.1.2, ⟨hk.1.1.2, hk.2⟩⟩)⟩, ⟨by (with_reducible repeat (first | apply Kd.RqA | apply Kd.RqN | apply Kd.RqD)); exact Kd.R_mono HO594.out (fun _ hk => ⟨hk.1.2, ⟨hk.1.1.2, hk.2⟩⟩)⟩, ⟨by (with_reducible repeat (first | apply Kd.RqA | apply Kd.RqN | apply Kd.RqD)); exact Kd.R_mono HO586.out (fun _ hk => ⟨hk.1.1.2, ⟨hk.1.2, hk.2⟩⟩)⟩, ⟨by (with_reducible repeat (first | apply Kd.RqA | apply Kd.RqN | apply Kd.RqD)); exact Kd.R_mono HO600.out (fun _ hk => ⟨hk.1.2, ⟨hk.2, hk.1.1.2⟩⟩)⟩, ⟨tG BK574.out⟩, ⟨tG BK588.out⟩, ⟨tG BK602.out⟩, ⟨tB⟩⟩
  replace c42 := Bool.eq_false_iff.mpr c42
  subst c42
  rw [if_neg (show ¬ (false = true) by decide)] at H
  replace H' := Aq.mk H
  clear H
  have hnb49 := NB602_574.out
  have hnc49 := NB574_602.out
  have hnb50 := NB602_588.out
  have hnc50 := NB588_602.out
  have hcz51_0 : w36.cell? ⟨gb602, 0, none⟩ = some (.int .i64 0) := (kQC BK602.out 0).trans rfl
  have hcz51_1 : w36.cell? ⟨gb602, 1, none⟩ = some (.slice none 0 0) := (kQC BK602.out 1).trans rfl
  have hfz51_0 := kQF BK602.out 0
  have hfz51_1 := kQF BK602.out 1
  have hnb52 := NB588_574.out
  have hnc52 := NB574_588.out
  have hcz53_0 : w36.cell? ⟨gb588, 0, none⟩ = some (.int .i64 t583) := (kQC BK588.out 0).trans rfl
  have hcz53_1 : w36.cell? ⟨gb588, 1, none⟩ = some (.slice Ao28 t584.length co28) := (kQC BK588.out 1).trans rfl
  have hfz53_0 := kQF BK588.out 0
  have hfz53_1 := kQF BK588.out 1
  go_wp2_with (first | ((with_reducible refine gQc (f := 26) rfl ?_); refine goesL_ (some 48) rfl rfl Try.func26 (by kernel_rfl) rfl #[.agg #[.int .i64 t597, .slice Ao40 t598.length co40], .agg #[.int .i64 t583, .slice Ao28 t584.length co28]] rfl tL ?_; (with_reducible refine (laws_eqMatrix.calls k t597 _ _ t598 t583 _ _ t584 false _ ?s1 ?s2 ?s3 ?s4 A41.out).mono ?_); (case s1 => refine (Kd.R_reads' (e := 2) (base := w.heap.size) (ok := fun k_ => (((((True ∧ some k_ ≠ (.slice Ao22 t577.length co22 : Value).ownBlock) ∧ some k_ ≠ (.slice Ao23 t580.length co23 : Value).ownBlock) ∧ some k_ ≠ (.slice Ao28 t584.length co28 : Value).ownBlock) ∧ some k_ ≠ (.slice Ao33 t589.length co33 : Value).ownBlock) ∧ some k_ ≠ (.slice Ao34 t592.length co34 : Value).ownBlock)) (n := t598.length) (c := co40) ?_).2.2; exact (by (with_reducible repeat (first | apply Kd.RqA | apply Kd.RqN | apply Kd.RqD)); exact (Kd.R_mono (Kd.R_far (p := ⟨gb602, 1, none⟩) (Kd.R_far (p := ⟨gb602, 0, none⟩) (Kd.R_types HO600.out BK602.out (by decide)) (fun _ hk => hk.2) (.int .i64 t597)) (fun _ hk => hk.2) (.slice Ao40 t598.length co40)) (fun _ h_ => h_.1)))); (case s2 => exact (Kd.R_reads' HO600.out).2.1); (case s3 => refine (Kd.R_reads' (e := 2) (base := w.heap.size) (ok := fun k_ => (((((True ∧ some k_ ≠ (.slice Ao22 t577.length co22 : Value).ownBlock) ∧ some k_ ≠ (.slice Ao23 t580.length co23 : Value).ownBlock) ∧ some k_ ≠ (.slice Ao33 t589.length co33 : Value).ownBlock) ∧ some k_ ≠ (.slice Ao34 t592.length co34 : Value).ownBlock) ∧ some k_ ≠ (.slice Ao40 t598.length co40 : Value).ownBlock)) (n := t584.length) (c := co28) ?_).2.2; exact (by (with_reducible repeat (first | apply Kd.RqA | apply Kd.RqN | apply Kd.RqD)); exact (Kd.R_mono (Kd.R_far (p := ⟨gb602, 1, none⟩) (Kd.R_far (p := ⟨gb602, 0, none⟩) (Kd.R_types HO586.out BK602.out (by decide)) (fun _ hk => hk.2) (.int .i64 t597)) (fun _ hk => hk.2) (.slice Ao40 t598.length co40)) (fun _ h_ => h_.1)))); (case s4 => exact (Kd.R_reads' HO586.out).2.1); rintro e w54 ⟨rfl, hb⟩; refine ⟨_, rfl, ?_⟩; refine qM10 (Kd.R_below (by (with_reducible repeat (first | apply Kd.RqA | apply Kd.RqN | apply Kd.RqD)); exact (Kd.R_mono (Kd.R_far (p := ⟨gb602, 1, none⟩) (Kd.R_far (p := ⟨gb602, 0, none⟩) (Kd.R_types HO579.out BK602.out (by decide)) (fun _ hk => hk.2) (.int .i64 t597)) (fun _ hk => hk.2) (.slice Ao40 t598.length co40)) (fun _ h_ => h_.1))) hb) (Kd.R_below (by (with_reducible repeat (first | apply Kd.RqA | apply Kd.RqN | apply Kd.RqD)); exact (Kd.R_mono (Kd.R_far (p := ⟨gb602, 1, none⟩) (Kd.R_far (p := ⟨gb602, 0, none⟩) (Kd.R_types HO582.out BK602.out (by decide)) (fun _ hk => hk.2) (.int .i64 t597)) (fun _ hk => hk.2) (.slice Ao40 t598.length co40)) (fun _ h_ => h_.1))) hb) (Kd.R_below (by (with_reducible repeat (first | apply Kd.RqA | apply Kd.RqN | apply Kd.RqD)); exact (Kd.R_mono (Kd.R_far (p := ⟨gb602, 1, none⟩) (Kd.R_far (p := ⟨gb602, 0, none⟩) (Kd.R_types HO586.out BK602.out (by decide)) (fun _ hk => hk.2) (.int .i64 t597)) (fun _ hk => hk.2) (.slice Ao40 t598.length co40)) (fun _ h_ => h_.1))) hb) (Kd.R_below (by (with_reducible repeat (first | apply Kd.RqA | apply Kd.RqN | apply Kd.RqD)); exact (Kd.R_mono (Kd.R_far (p := ⟨gb602, 1, none⟩) (Kd.R_far (p := ⟨gb602, 0, none⟩) (Kd.R_types HO591.out BK602.out (by decide)) (fun _ hk => hk.2) (.int .i64 t597)) (fun _ hk => hk.2) (.slice Ao40 t598.length co40)) (fun _ h_ => h_.1))) hb) (Kd.R_below (by (with_reducible repeat (first | apply Kd.RqA | apply Kd.RqN | apply Kd.RqD)); exact (Kd.R_mono (Kd.R_far (p := ⟨gb602, 1, none⟩) (Kd.R_far (p := ⟨gb602, 0, none⟩) (Kd.R_types HO594.out BK602.out (by decide)) (fun _ hk => hk.2) (.int .i64 t597)) (fun _ hk => hk.2) (.slice Ao40 t598.length co40)) (fun _ h_ => h_.1))) hb) (Kd.R_below (by (with_reducible repeat (first | apply Kd.RqA | apply Kd.RqN | apply Kd.RqD)); exact (Kd.R_mono (Kd.R_far (p := ⟨gb602, 1, none⟩) (Kd.R_far (p := ⟨gb602, 0, none⟩) (Kd.R_types HO600.out BK602.out (by decide)) (fun _ hk => hk.2) (.int .i64 t597)) (fun _ hk => hk.2) (.slice Ao40 t598.length co40)) (fun _ h_ => h_.1))) hb) (kQB (g := gb574) (o := .cells #[.int .i64 a0_0, .int .i64 a0_1] 23 (0, 0)) (by (with_reducible repeat (first | refine kQN ?_ _ | refine kQD ?_ | refine kQA ?_ _)); refine kQR ?_ NB574_602.out _; (with_reducible repeat (first | refine kQN ?_ _ | refine kQD ?_ | refine kQA ?_ _)); refine kQR ?_ NB574_602.out _; (with_reducible repeat (first | refine kQN ?_ _ | refine kQD ?_ | refine kQA ?_ _)); exact BK574.out) hb) (kQB (g := gb588) (o := .cells #[.int .i64 t583, .slice Ao28 t584.length co28] 41 (0, 0)) (by (with_reducible repeat (first | refine kQN ?_ _ | refine kQD ?_ | refine kQA ?_ _)); refine kQR ?_ NB588_602.out _; (with_reducible repeat (first | refine kQN ?_ _ | refine kQD ?_ | refine kQA ?_ _)); refine kQR ?_ NB588_602.out _; (with_reducible repeat (first | refine kQN ?_ _ | refine kQD ?_ | refine kQA ?_ _)); exact BK588.out) hb) (kQB (g := gb602) (o := .cells #[.int .i64 t597, .slice Ao40 t598.length co40] 41 (0, 0)) (by (with_reducible repeat (first | refine kQN ?_ _ | refine kQD ?_ | refine kQA ?_ _)); refine kQP (cs := #[.int .i64 t597, .slice none 0 0]) ?_ 1 _ rfl; (with_reducible repeat (first | refine kQN ?_ _ | refine kQD ?_ | refine kQA ?_ _)); refine kQP (cs := #[.int .i64 0, .slice none 0 0]) ?_ 0 _ rfl; (with_reducible repeat (first | refine kQN ?_ _ | refine kQD ?_ | refine kQA ?_ _)); exact BK602.out) hb) (bQT tB hb) ?_; clear HO579 HO582 HO586 HO591 HO594 HO600 BK574 BK588 BK602 HB; intro HO579 HO582 HO586 HO591 HO594 HO600 BK574 BK588 BK602 HB; (try clear hb); (try clear hb2); (try clear hk); (try clear hi)))
  go_meet
  case rel => exact ⟨_, (true), tS, H', ⟨tO⟩, ⟨by (with_reducible repeat (first | apply Kd.RqA | apply Kd.RqN | apply Kd.RqD)); exact Kd.R_mono HO591.out (fun _ hk => ⟨hk.1.2, ⟨hk.1.1.2, hk.2⟩⟩)⟩, ⟨by (with_reducible repeat (first | apply Kd.RqA | apply Kd.RqN | apply Kd.RqD)); exact Kd.R_mono HO594.out (fun _ hk => ⟨hk.1.2, ⟨hk.1.1.2, hk.2⟩⟩)⟩, ⟨by (with_reducible repeat (first | apply Kd.RqA | apply Kd.RqN | apply Kd.RqD)); exact Kd.R_mono HO586.out (fun _ hk => ⟨hk.1.1.2, ⟨hk.1.2, hk.2⟩⟩)⟩, ⟨by (with_reducible repeat (first | apply Kd.RqA | apply Kd.RqN | apply Kd.RqD)); exact Kd.R_mono HO600.out (fun _ hk => ⟨hk.1.2, ⟨hk.2, hk.1.1.2⟩⟩)⟩, ⟨tG BK574.out⟩, ⟨tG BK588.out⟩, ⟨tG BK602.out⟩, ⟨tB⟩⟩
 clear HC16
 try clear c1
 try clear c2
 try clear c4
 try clear c4b0
 try clear c4b1
 try clear c6
 try clear c6b0
 try clear c6b1
 try clear c42
 try clear hcz18_0
 try clear hcz18_1
 try clear hcz27_0
 try clear hcz27_1
 try clear hcz31_0
 try clear hcz31_1
 try clear hcz39_0
 try clear hcz39_1
 try clear hcz45_0
 try clear hcz45_1
 try clear hcz47_0
 try clear hcz47_1
 try clear hcz51_0
 try clear hcz51_1
 try clear hcz53_0
 try clear hcz53_1
 try clear hfz18_0
 try clear hfz18_1
 try clear hfz27_0
 try clear hfz27_1
 try clear hfz31_0
 try clear hfz31_1
 try clear hfz39_0
 try clear hfz39_1
 try clear hfz45_0
 try clear hfz45_1
 try clear hfz47_0
 try clear hfz47_1
 try clear hfz51_0
 try clear hfz51_1
 try clear hfz53_0
 try clear hfz53_1
 obtain ⟨kq, x54_15, rfl, HA, HJ15, HO_9, HO_10, HO_589001, HO_603001, BK574, BK588, BK602, HB⟩ := hcut
 cases kq with
 | zero => exact absurd HA.out (by simp [laws_FnExactMatrixOfLinear.j0])
 | succ kj15 =>
  have H := HA.out
  clear HA
  simp only [laws_FnExactMatrixOfLinear.j0] at H
  by_cases c55 : x54_15 = true
  ·subst c55
   rw [if_pos rfl] at H
   obtain rfl := Option.some.inj H
   go_wp2
   go_ret
   exact ⟨tE, tB⟩
  replace c55 := Bool.eq_false_iff.mpr c55
  subst c55
  rw [if_neg (show ¬ (false = true) by decide)] at H
  obtain ⟨t604, A56, H⟩ := qBd H
  obtain ⟨t607, A57, H⟩ := qBd H
  by_cases c58 : t607 = true
  rotate_left
  ·replace c58 := Bool.eq_false_iff.mpr c58
   subst c58
   rw [if_neg (show ¬ (false = true) by decide)] at H
   obtain rfl := Option.some.inj H
   go_wp2_with (first | ((with_reducible refine gQc (f := 18) rfl ?_); refine goesL_ (some 57) rfl rfl Try.func18 (by kernel_rfl) rfl #[.slice A1 l1.length c1] rfl tL ?_; (with_reducible refine (laws_toInt64S.calls kj15 _ _ l1 t604 _ ?s1 ?s2 A56.out).mono ?_); (case s1 => exact tC ((Kd.C_below HR1.out HB.out))); (case s2 => exact HC1.out); rintro e w169 ⟨v605, rfl, ho0, hb⟩; refine ⟨_, rfl, ?_⟩; refine qM9 (Kd.R_elder' (tR HO_9.out) (Kd.R_base ho0) hb) (Kd.R_elder' (tR HO_10.out) (Kd.R_base ho0) hb) (Kd.R_elder' (tR HO_589001.out) (Kd.R_base ho0) hb) (Kd.R_elder' (tR HO_603001.out) (Kd.R_base ho0) hb) (Kd.R_lower (Kd.R_new' (Kd.R_new' (Kd.R_new' (Kd.R_new' ho0 (Kd.R_lt (tR HO_9.out))) (Kd.R_lt (tR HO_10.out))) (Kd.R_lt (tR HO_589001.out))) (Kd.R_lt (tR HO_603001.out))) (bQZ tB)) (tQ BK574.out hb) (tQ BK588.out hb) (tQ BK602.out hb) (bQT tB hb) ?_; clear HO_9 HO_10 HO_589001 HO_603001 BK574 BK588 BK602 HB; intro HO_9 HO_10 HO_589001 HO_603001 HO606 BK574 BK588 BK602 HB; (try clear hb); (try clear hb2); (try clear hk); (try clear hi); (try clear ho0); obtain ⟨Ao170, co170, eo170⟩ := Kd.R_slice HO606.out; subst eo170) | ((with_reducible refine gQc (f := 14) rfl ?_); refine goesL_ (some 58) rfl rfl Try.func14 (by kernel_rfl) rfl #[.slice Ao33 t589.length co33, .slice Ao170 t604.length co170] rfl tL ?_; (with_reducible refine (laws_eqInt64S.calls kj15 _ _ t589 _ _ t604 false _ ?s1 ?s2 ?s3 ?s4 A57.out).mono ?_); (case s1 => exact tC ((Kd.R_reads' HO_9.out).2.2)); (case s2 => exact (Kd.R_reads' HO_9.out).2.1); (case s3 => exact tC ((Kd.R_reads' HO606.out).2.2)); (case s4 => exact (Kd.R_reads' HO606.out).2.1); rintro e w' ⟨rfl, ⟨nd, rfl⟩⟩; refine ⟨_, rfl, ?_⟩))
   go_ret
   exact ⟨tE, tB⟩
  subst c58
  rw [if_pos rfl] at H
  obtain ⟨t608, A59, H⟩ := qBd H
  obtain ⟨t611, A60, H⟩ := qBd H
  by_cases c61 : t611 = true
  rotate_left
  ·replace c61 := Bool.eq_false_iff.mpr c61
   subst c61
   rw [if_neg (show ¬ (false = true) by decide)] at H
   obtain rfl := Option.some.inj H
   go_wp2_with (first | ((with_reducible refine gQc (f := 18) rfl ?_); refine goesL_ (some 57) rfl rfl Try.func18 (by kernel_rfl) rfl #[.slice A1 l1.length c1] rfl tL ?_; (with_reducible refine (laws_toInt64S.calls kj15 _ _ l1 t604 _ ?s1 ?s2 A56.out).mono ?_); (case s1 => exact tC ((Kd.C_below HR1.out HB.out))); (case s2 => exact HC1.out); rintro e w165 ⟨v605, rfl, ho0, hb⟩; refine ⟨_, rfl, ?_⟩; refine qM9 (Kd.R_elder' (tR HO_9.out) (Kd.R_base ho0) hb) (Kd.R_elder' (tR HO_10.out) (Kd.R_base ho0) hb) (Kd.R_elder' (tR HO_589001.out) (Kd.R_base ho0) hb) (Kd.R_elder' (tR HO_603001.out) (Kd.R_base ho0) hb) (Kd.R_lower (Kd.R_new' (Kd.R_new' (Kd.R_new' (Kd.R_new' ho0 (Kd.R_lt (tR HO_9.out))) (Kd.R_lt (tR HO_10.out))) (Kd.R_lt (tR HO_589001.out))) (Kd.R_lt (tR HO_603001.out))) (bQZ tB)) (tQ BK574.out hb) (tQ BK588.out hb) (tQ BK602.out hb) (bQT tB hb) ?_; clear HO_9 HO_10 HO_589001 HO_603001 BK574 BK588 BK602 HB; intro HO_9 HO_10 HO_589001 HO_603001 HO606 BK574 BK588 BK602 HB; (try clear hb); (try clear hb2); (try clear hk); (try clear hi); (try clear ho0); obtain ⟨Ao166, co166, eo166⟩ := Kd.R_slice HO606.out; subst eo166) | ((with_reducible refine gQc (f := 14) rfl ?_); refine goesL_ (some 58) rfl rfl Try.func14 (by kernel_rfl) rfl #[.slice Ao33 t589.length co33, .slice Ao166 t604.length co166] rfl tL ?_; (with_reducible refine (laws_eqInt64S.calls kj15 _ _ t589 _ _ t604 true _ ?s1 ?s2 ?s3 ?s4 A57.out).mono ?_); (case s1 => exact tC ((Kd.R_reads' HO_9.out).2.2)); (case s2 => exact (Kd.R_reads' HO_9.out).2.1); (case s3 => exact tC ((Kd.R_reads' HO606.out).2.2)); (case s4 => exact (Kd.R_reads' HO606.out).2.1); rintro e w' ⟨rfl, ⟨nd, rfl⟩⟩; refine ⟨_, rfl, ?_⟩) | ((with_reducible refine gQc (f := 18) rfl ?_); refine goesL_ (some 62) rfl rfl Try.func18 (by kernel_rfl) rfl #[.slice A2 l2.length c2] rfl tL ?_; (with_reducible refine (laws_toInt64S.calls kj15 _ _ l2 t608 _ ?s1 ?s2 A59.out).mono ?_); (case s1 => exact tC ((Kd.C_below HR2.out tB))); (case s2 => exact HC2.out); rintro e w167 ⟨v609, rfl, ho0, hb⟩; refine ⟨_, rfl, ?_⟩; refine qM10 (Kd.R_elder' (tR HO_9.out) (Kd.R_base ho0) hb) (Kd.R_elder' (tR HO_10.out) (Kd.R_base ho0) hb) (Kd.R_elder' (tR HO_589001.out) (Kd.R_base ho0) hb) (Kd.R_elder' (tR HO_603001.out) (Kd.R_base ho0) hb) (Kd.R_elder' (tR HO606.out) (Kd.R_base ho0) hb) (Kd.R_lower (Kd.R_new' (Kd.R_new' (Kd.R_new' (Kd.R_new' (Kd.R_new' ho0 (Kd.R_lt (tR HO_9.out))) (Kd.R_lt (tR HO_10.out))) (Kd.R_lt (tR HO_589001.out))) (Kd.R_lt (tR HO_603001.out))) (Kd.R_lt (tR HO606.out))) (bQZ tB)) (tQ BK574.out hb) (tQ BK588.out hb) (tQ BK602.out hb) (bQT tB hb) ?_; clear HO_9 HO_10 HO_589001 HO_603001 HO606 BK574 BK588 BK602 HB; intro HO_9 HO_10 HO_589001 HO_603001 HO606 HO610 BK574 BK588 BK602 HB; (try clear hb); (try clear hb2); (try clear hk); (try clear hi); (try clear ho0); obtain ⟨Ao168, co168, eo168⟩ := Kd.R_slice HO610.out; subst eo168) | ((with_reducible refine gQc (f := 14) rfl ?_); refine goesL_ (some 63) rfl rfl Try.func14 (by kernel_rfl) rfl #[.slice Ao34 t592.length co34, .slice Ao168 t608.length co168] rfl tL ?_; (with_reducible refine (laws_eqInt64S.calls kj15 _ _ t592 _ _ t608 false _ ?s1 ?s2 ?s3 ?s4 A60.out).mono ?_); (case s1 => exact tC ((Kd.R_reads' HO_10.out).2.2)); (case s2 => exact (Kd.R_reads' HO_10.out).2.1); (case s3 => exact tC ((Kd.R_reads' HO610.out).2.2)); (case s4 => exact (Kd.R_reads' HO610.out).2.1); rintro e w' ⟨rfl, ⟨nd, rfl⟩⟩; refine ⟨_, rfl, ?_⟩))
   go_ret
   exact ⟨tE, tB⟩
  subst c61
  rw [if_pos rfl] at H
  obtain ⟨⟨t612, t613⟩, A62, H⟩ := qBd H
  (try dsimp only at H)
  obtain ⟨⟨t614, t615⟩, A63, H⟩ := qBd H
  (try dsimp only at H)
  have HC64 := Aq.mk H
  clear H
  go_upto_region 18 with (first | ((with_reducible refine gQc (f := 18) rfl ?_); refine goesL_ (some 57) rfl rfl Try.func18 (by kernel_rfl) rfl #[.slice A1 l1.length c1] rfl tL ?_; (with_reducible refine (laws_toInt64S.calls kj15 _ _ l1 t604 _ ?s1 ?s2 A56.out).mono ?_); (case s1 => exact tC ((Kd.C_below HR1.out HB.out))); (case s2 => exact HC1.out); rintro e w65 ⟨v605, rfl, ho0, hb⟩; refine ⟨_, rfl, ?_⟩; refine qM9 (Kd.R_elder' (tR HO_9.out) (Kd.R_base ho0) hb) (Kd.R_elder' (tR HO_10.out) (Kd.R_base ho0) hb) (Kd.R_elder' (tR HO_589001.out) (Kd.R_base ho0) hb) (Kd.R_elder' (tR HO_603001.out) (Kd.R_base ho0) hb) (Kd.R_lower (Kd.R_new' (Kd.R_new' (Kd.R_new' (Kd.R_new' ho0 (Kd.R_lt (tR HO_9.out))) (Kd.R_lt (tR HO_10.out))) (Kd.R_lt (tR HO_589001.out))) (Kd.R_lt (tR HO_603001.out))) (bQZ tB)) (tQ BK574.out hb) (tQ BK588.out hb) (tQ BK602.out hb) (bQT tB hb) ?_; clear HO_9 HO_10 HO_589001 HO_603001 BK574 BK588 BK602 HB; intro HO_9 HO_10 HO_589001 HO_603001 HO606 BK574 BK588 BK602 HB; (try clear hb); (try clear hb2); (try clear hk); (try clear hi); (try clear ho0); obtain ⟨Ao66, co66, eo66⟩ := Kd.R_slice HO606.out; subst eo66) | ((with_reducible refine gQc (f := 14) rfl ?_); refine goesL_ (some 58) rfl rfl Try.func14 (by kernel_rfl) rfl #[.slice Ao33 t589.length co33, .slice Ao66 t604.length co66] rfl tL ?_; (with_reducible refine (laws_eqInt64S.calls kj15 _ _ t589 _ _ t604 true _ ?s1 ?s2 ?s3 ?s4 A57.out).mono ?_); (case s1 => exact tC ((Kd.R_reads' HO_9.out).2.2)); (case s2 => exact (Kd.R_reads' HO_9.out).2.1); (case s3 => exact tC ((Kd.R_reads' HO606.out).2.2)); (case s4 => exact (Kd.R_reads' HO606.out).2.1); rintro e w' ⟨rfl, ⟨nd, rfl⟩⟩; refine ⟨_, rfl, ?_⟩) | ((with_reducible refine gQc (f := 18) rfl ?_); refine goesL_ (some 62) rfl rfl Try.func18 (by kernel_rfl) rfl #[.slice A2 l2.length c2] rfl tL ?_; (with_reducible refine (laws_toInt64S.calls kj15 _ _ l2 t608 _ ?s1 ?s2 A59.out).mono ?_); (case s1 => exact tC ((Kd.C_below HR2.out tB))); (case s2 => exact HC2.out); rintro e w67 ⟨v609, rfl, ho0, hb⟩; refine ⟨_, rfl, ?_⟩; refine qM10 (Kd.R_elder' (tR HO_9.out) (Kd.R_base ho0) hb) (Kd.R_elder' (tR HO_10.out) (Kd.R_base ho0) hb) (Kd.R_elder' (tR HO_589001.out) (Kd.R_base ho0) hb) (Kd.R_elder' (tR HO_603001.out) (Kd.R_base ho0) hb) (Kd.R_elder' (tR HO606.out) (Kd.R_base ho0) hb) (Kd.R_lower (Kd.R_new' (Kd.R_new' (Kd.R_new' (Kd.R_new' (Kd.R_new' ho0 (Kd.R_lt (tR HO_9.out))) (Kd.R_lt (tR HO_10.out))) (Kd.R_lt (tR HO_589001.out))) (Kd.R_lt (tR HO_603001.out))) (Kd.R_lt (tR HO606.out))) (bQZ tB)) (tQ BK574.out hb) (tQ BK588.out hb) (tQ BK602.out hb) (bQT tB hb) ?_; clear HO_9 HO_10 HO_589001 HO_603001 HO606 BK574 BK588 BK602 HB; intro HO_9 HO_10 HO_589001 HO_603001 HO606 HO610 BK574 BK588 BK602 HB; (try clear hb); (try clear hb2); (try clear hk); (try clear hi); (try clear ho0); obtain ⟨Ao68, co68, eo68⟩ := Kd.R_slice HO610.out; subst eo68) | ((with_reducible refine gQc (f := 14) rfl ?_); refine goesL_ (some 63) rfl rfl Try.func14 (by kernel_rfl) rfl #[.slice Ao34 t592.length co34, .slice Ao68 t608.length co68] rfl tL ?_; (with_reducible refine (laws_eqInt64S.calls kj15 _ _ t592 _ _ t608 true _ ?s1 ?s2 ?s3 ?s4 A60.out).mono ?_); (case s1 => exact tC ((Kd.R_reads' HO_10.out).2.2)); (case s2 => exact (Kd.R_reads' HO_10.out).2.1); (case s3 => exact tC ((Kd.R_reads' HO610.out).2.2)); (case s4 => exact (Kd.R_reads' HO610.out).2.1); rintro e w' ⟨rfl, ⟨nd, rfl⟩⟩; refine ⟨_, rfl, ?_⟩) | ((with_reducible refine gQc (f := 15) rfl ?_); refine goesL_ (some 67) rfl rfl Try.func15 (by kernel_rfl) rfl #[.slice Ao33 t589.length co33, .int .i64 1] rfl tL ?_; (with_reducible refine (laws_markInt64S.calls kj15 (fun k_ => some k_ = (.slice Ao33 t589.length co33 : Value).ownBlock) (.slice Ao33 t589.length co33) t589 1 t612 t613 w _ ?s1 ?s2 A62.out).mono ?_); (case s1 => exact tB); (case s2 => exact Kd.R_tight rfl HO_9.out); rintro e w69 ⟨rfl, hy0, hb, hkp⟩; refine ⟨_, rfl, ?_⟩; refine qM10 (Kd.R_reok rfl hy0 (fun k_ e_ => HO_9.out.1 k_ e_)) (Kd.R_mono (ok' := fun k_ => some k_ ≠ (.slice Ao33 t589.length co33 : Value).ownBlock ∧ some k_ ≠ (.slice Ao28 t584.length co28 : Value).ownBlock ∧ some k_ ≠ (.slice Ao40 t598.length co40 : Value).ownBlock ∧ some k_ ≠ (.slice Ao66 t604.length co66 : Value).ownBlock ∧ some k_ ≠ (.slice Ao68 t608.length co68 : Value).ownBlock) (Kd.R_keptB (HO_10.out) hkp (fun k_ hk_ hs_ => (hk_.1.1.1) hs_)) (fun k_ hk_ => ⟨hk_.1.1.1.1, hk_.1.1.1.2.1, hk_.1.1.1.2.2, hk_.1.1.2, hk_.1.2⟩)) (Kd.R_mono (ok' := fun k_ => some k_ ≠ (.slice Ao33 t589.length co33 : Value).ownBlock ∧ some k_ ≠ (.slice Ao34 t592.length co34 : Value).ownBlock ∧ some k_ ≠ (.slice Ao40 t598.length co40 : Value).ownBlock ∧ some k_ ≠ (.slice Ao66 t604.length co66 : Value).ownBlock ∧ some k_ ≠ (.slice Ao68 t608.length co68 : Value).ownBlock) (Kd.R_keptB (HO_589001.out) hkp (fun k_ hk_ hs_ => (hk_.1.1.1) hs_)) (fun k_ hk_ => ⟨hk_.1.1.1.1, hk_.1.1.1.2.1, hk_.1.1.1.2.2, hk_.1.1.2, hk_.1.2⟩)) (Kd.R_mono (ok' := fun k_ => some k_ ≠ (.slice Ao33 t589.length co33 : Value).ownBlock ∧ some k_ ≠ (.slice Ao34 t592.length co34 : Value).ownBlock ∧ some k_ ≠ (.slice Ao28 t584.length co28 : Value).ownBlock ∧ some k_ ≠ (.slice Ao66 t604.length co66 : Value).ownBlock ∧ some k_ ≠ (.slice Ao68 t608.length co68 : Value).ownBlock) (Kd.R_keptB (HO_603001.out) hkp (fun k_ hk_ hs_ => (hk_.1.1.1) hs_)) (fun k_ hk_ => ⟨hk_.1.1.1.1, hk_.1.1.1.2.1, hk_.1.1.1.2.2, hk_.1.1.2, hk_.1.2⟩)) (blk_kept (tG BK574.out) hkp (fun hs_ => (fun e_ => (Kd.R_ne HO_9.out BK574.out (by decide)) e_) hs_)) (blk_kept (tG BK588.out) hkp (fun hs_ => (fun e_ => (Kd.R_ne HO_9.out BK588.out (by decide)) e_) hs_)) (blk_kept (tG BK602.out) hkp (fun hs_ => (fun e_ => (Kd.R_ne HO_9.out BK602.out (by decide)) e_) hs_)) (Kd.R_mono (ok' := fun k_ => some k_ ≠ (.slice Ao33 t589.length co33 : Value).ownBlock ∧ some k_ ≠ (.slice Ao34 t592.length co34 : Value).ownBlock ∧ some k_ ≠ (.slice Ao28 t584.length co28 : Value).ownBlock ∧ some k_ ≠ (.slice Ao40 t598.length co40 : Value).ownBlock ∧ some k_ ≠ (.slice Ao68 t608.length co68 : Value).ownBlock) (Kd.R_keptB (HO606.out) hkp (fun k_ hk_ hs_ => (hk_.1.1.1.1.2) hs_)) (fun k_ hk_ => ⟨hk_.1.1.1.1.1.2, hk_.1.1.1.1.2, hk_.1.1.1.2, hk_.1.1.2, hk_.1.2⟩)) (Kd.R_mono (ok' := fun k_ => some k_ ≠ (.slice Ao33 t589.length co33 : Value).ownBlock ∧ some k_ ≠ (.slice Ao34 t592.length co34 : Value).ownBlock ∧ some k_ ≠ (.slice Ao28 t584.length co28 : Value).ownBlock ∧ some k_ ≠ (.slice Ao40 t598.length co40 : Value).ownBlock ∧ some k_ ≠ (.slice Ao66 t604.length co66 : Value).ownBlock) (Kd.R_keptB (HO610.out) hkp (fun k_ hk_ hs_ => (hk_.1.1.1.1.2) hs_)) (fun k_ hk_ => ⟨hk_.1.1.1.1.1.2, hk_.1.1.1.1.2, hk_.1.1.1.2, hk_.1.1.2, hk_.1.2⟩)) hb ?_; clear HO_9 HO_10 HO_589001 HO_603001 BK574 BK588 BK602 HO606 HO610 HB; intro HO_9 HO_10 HO_589001 HO_603001 BK574 BK588 BK602 HO606 HO610 HB; (try clear hb); (try clear hkp); (try clear hy0)) | ((with_reducible refine gQc (f := 15) rfl ?_); refine goesL_ (some 70) rfl rfl Try.func15 (by kernel_rfl) rfl #[.slice Ao34 t592.length co34, .int .i64 t612] rfl tL ?_; (with_reducible refine (laws_markInt64S.calls kj15 (fun k_ => some k_ = (.slice Ao34 t592.length co34 : Value).ownBlock) (.slice Ao34 t592.length co34) t592 t612 t614 t615 w _ ?s1 ?s2 A63.out).mono ?_); (case s1 => exact tB); (case s2 => exact Kd.R_tight rfl HO_10.out); rintro e w70 ⟨rfl, hy0, hb, hkp⟩; refine ⟨_, rfl, ?_⟩; refine qM10 (Kd.R_mono (ok' := fun k_ => some k_ ≠ (.slice Ao34 t592.length co34 : Value).ownBlock ∧ some k_ ≠ (.slice Ao28 t584.length co28 : Value).ownBlock ∧ some k_ ≠ (.slice Ao40 t598.length co40 : Value).ownBlock ∧ some k_ ≠ (.slice Ao66 t604.length co66 : Value).ownBlock ∧ some k_ ≠ (.slice Ao68 t608.length co68 : Value).ownBlock) (Kd.R_keptB (HO_9.out) hkp (fun k_ hk_ hs_ => (hk_.1.1.1) hs_)) (fun k_ hk_ => ⟨hk_.1.1.1.1, hk_.1.1.1.2.1, hk_.1.1.1.2.2, hk_.1.1.2, hk_.1.2⟩)) (Kd.R_reok rfl hy0 (fun k_ e_ => HO_10.out.1 k_ e_)) (Kd.R_mono (ok' := fun k_ => some k_ ≠ (.slice Ao33 t589.length co33 : Value).ownBlock ∧ some k_ ≠ (.slice Ao34 t592.length co34 : Value).ownBlock ∧ some k_ ≠ (.slice Ao40 t598.length co40 : Value).ownBlock ∧ some k_ ≠ (.slice Ao66 t604.length co66 : Value).ownBlock ∧ some k_ ≠ (.slice Ao68 t608.length co68 : Value).ownBlock) (Kd.R_keptB (HO_589001.out) hkp (fun k_ hk_ hs_ => (hk_.2.1) hs_)) (fun k_ hk_ => ⟨hk_.1.1, hk_.1.2.1, hk_.1.2.2.1, hk_.1.2.2.2.1, hk_.1.2.2.2.2⟩)) (Kd.R_mono (ok' := fun k_ => some k_ ≠ (.slice Ao33 t589.length co33 : Value).ownBlock ∧ some k_ ≠ (.slice Ao34 t592.length co34 : Value).ownBlock ∧ some k_ ≠ (.slice Ao28 t584.length co28 : Value).ownBlock ∧ some k_ ≠ (.slice Ao66 t604.length co66 : Value).ownBlock ∧ some k_ ≠ (.slice Ao68 t608.length co68 : Value).ownBlock) (Kd.R_keptB (HO_603001.out) hkp (fun k_ hk_ hs_ => (hk_.2.1) hs_)) (fun k_ hk_ => ⟨hk_.1.1, hk_.1.2.1, hk_.1.2.2.1, hk_.1.2.2.2.1, hk_.1.2.2.2.2⟩)) (blk_kept (tG BK574.out) hkp (fun hs_ => (fun e_ => (Kd.R_ne HO_10.out BK574.out (by decide)) e_) hs_)) (blk_kept (tG BK588.out) hkp (fun hs_ => (fun e_ => (Kd.R_ne HO_10.out BK588.out (by decide)) e_) hs_)) (blk_kept (tG BK602.out) hkp (fun hs_ => (fun e_ => (Kd.R_ne HO_10.out BK602.out (by decide)) e_) hs_)) (Kd.R_mono (ok' := fun k_ => some k_ ≠ (.slice Ao33 t589.length co33 : Value).ownBlock ∧ some k_ ≠ (.slice Ao34 t592.length co34 : Value).ownBlock ∧ some k_ ≠ (.slice Ao28 t584.length co28 : Value).ownBlock ∧ some k_ ≠ (.slice Ao40 t598.length co40 : Value).ownBlock ∧ some k_ ≠ (.slice Ao68 t608.length co68 : Value).ownBlock) (Kd.R_keptB (HO606.out) hkp (fun k_ hk_ hs_ => (hk_.2.1) hs_)) (fun k_ hk_ => ⟨hk_.1.1, hk_.1.2.1, hk_.1.2.2.1, hk_.1.2.2.2.1, hk_.1.2.2.2.2⟩)) (Kd.R_mono (ok' := fun k_ => some k_ ≠ (.slice Ao33 t589.length co33 : Value).ownBlock ∧ some k_ ≠ (.slice Ao34 t592.length co34 : Value).ownBlock ∧ some k_ ≠ (.slice Ao28 t584.length co28 : Value).ownBlock ∧ some k_ ≠ (.slice Ao40 t598.length co40 : Value).ownBlock ∧ some k_ ≠ (.slice Ao66 t604.length co66 : Value).ownBlock) (Kd.R_keptB (HO610.out) hkp (fun k_ hk_ hs_ => (hk_.2.1) hs_)) (fun k_ hk_ => ⟨hk_.1.1, hk_.1.2.1, hk_.1.2.2.1, hk_.1.2.2.2.1, hk_.1.2.2.2.2⟩)) hb ?_; clear HO_9 HO_10 HO_589001 HO_603001 BK574 BK588 BK602 HO606 HO610 HB; intro HO_9 HO_10 HO_589001 HO_603001 BK574 BK588 BK602 HO606 HO610 HB; (try clear hb); (try clear hkp); (try clear hy0)))
  (try simp only [Act.put, qSa, qSb, qSc])
  go_cut [83] (fun v83 wc => ∃ (kq : Nat) (x83_63 : Bool), v83 = .bool x83_63 ∧ Aq (laws_FnExactMatrixOfLinear.j1 kq l1 l2 t587 x83_63 a0_0 a0_1 t583 t584 t597 t598 = some r) ∧ Aq (kq ≤ kj15) ∧ Aq (Kd.R (Kd.int .i64) 2 wc w.heap.size (fun k_ => some k_ ≠ ((.slice Ao40 t598.length co40) : Value).ownBlock) (.slice Ao28 t584.length co28) t584) ∧ Aq (Kd.R (Kd.int .i64) 2 wc w.heap.size (fun k_ => some k_ ≠ ((.slice Ao28 t584.length co28) : Value).ownBlock) (.slice Ao40 t598.length co40) t598) ∧ Aq (wc.heap[gb574]? = some (.cells #[.int .i64 a0_0, .int .i64 a0_1] 23 (0, 0))) ∧ Aq (wc.heap[gb588]? = some (.cells #[.int .i64 t583, (.slice Ao28 t584.length co28)] 41 (0, 0))) ∧ Aq (wc.heap[gb602]? = some (.cells #[.int .i64 t597, (.slice Ao40 t598.length co40)] 41 (0, 0))) ∧ Aq (Below w.heap.size w wc))
  case first =>
   have H := HC64.out
   clear HC64
   by_cases c71 : t614 < 0
   ·rw [if_pos c71] at H
    have c71b0 := decide_eq_true c71
    clear c71
    (first | rw [c71b0] | (simp only [i64_w, i32_w]; rw [c71b0]) | skip)
    replace H' := Aq.mk H
    clear H
    go_wp2
    go_meet
    case rel => exact ⟨_, (true), tS, H', ⟨by have := HJ15.out; first | omega | exact Nat.le_refl _⟩, ⟨by (with_reducible repeat (first | apply Kd.RqA | apply Kd.RqN | apply Kd.RqD)); exact Kd.R_mono HO_589001.out (fun _ hk => hk.2.2.1)⟩, ⟨by (with_reducible repeat (first | apply Kd.RqA | apply Kd.RqN | apply Kd.RqD)); exact Kd.R_mono HO_603001.out (fun _ hk => hk.2.2.1)⟩, ⟨tG BK574.out⟩, ⟨tG BK588.out⟩, ⟨tG BK602.out⟩, ⟨tB⟩⟩
   rw [if_neg c71] at H
   have c71b0 := decide_eq_false c71
   clear c71
   (first | rw [c71b0] | (simp only [i64_w, i32_w]; rw [c71b0]) | skip)
   obtain ⟨t616, A72, H⟩ := qBd H
   by_cases c73 : t616 = true
   ·subst c73
    rw [if_pos rfl] at H
    replace H' := Aq.mk H
    clear H
    have hnb74 := NB602_574.out
    have hnc74 := NB574_602.out
    have hnb75 := NB602_588.out
    have hnc75 := NB588_602.out
    have hcz76_0 : w70.cell? ⟨gb602, 0, none⟩ = some (.int .i64 t597) := (kQC BK602.out 0).trans rfl
    have hcz76_1 : w70.cell? ⟨gb602, 1, none⟩ = some (.slice Ao40 t598.length co40) := (kQC BK602.out 1).trans rfl
    have hfz76_0 := kQF BK602.out 0
    have hfz76_1 := kQF BK602.out 1
    have hnb77 := NB588_574.out
    have hnc77 := NB574_588.out
    have hcz78_0 : w70.cell? ⟨gb588, 0, none⟩ = some (.int .i64 t583) := (kQC BK588.out 0).trans rfl
    have hcz78_1 : w70.cell? ⟨gb588, 1, none⟩ = some (.slice Ao28 t584.length co28) := (kQC BK588.out 1).trans rfl
    have hfz78_0 := kQF BK588.out 0
    have hfz78_1 := kQF BK588.out 1
    go_wp2_with (first | (go_at_call 26; (with_reducible refine (laws_eqMatrix.calls kj15 t597 _ _ t598 t583 _ _ t584 true _ ?s1 ?s2 ?s3 ?s4 A72.out).mono ?_); (case s1 => exact tC ((Kd.R_reads' HO_603001.out).2.2)); (case s2 => exact (Kd.R_reads' HO_603001.out).2.1); (case s3 => exact tC ((Kd.R_reads' HO_589001.out).2.2)); (case s4 => exact (Kd.R_reads' HO_589001.out).2.1); rintro e w79 ⟨rfl, hb⟩; refine qM10 (Kd.R_below (tR HO_9.out) hb) (Kd.R_below (tR HO_10.out) hb) (Kd.R_below (tR HO_589001.out) hb) (Kd.R_below (tR HO_603001.out) hb) (Kd.R_below (tR HO606.out) hb) (Kd.R_below (tR HO610.out) hb) (tQ BK574.out hb) (tQ BK588.out hb) (tQ BK602.out hb) (bQT tB hb) ?_; clear HO_9 HO_10 HO_589001 HO_603001 HO606 HO610 BK574 BK588 BK602 HB; intro HO_9 HO_10 HO_589001 HO_603001 HO606 HO610 BK574 BK588 BK602 HB; (try clear hb); (try clear hb2); (try clear hk); (try clear hi)))
    go_meet
    case rel => exact ⟨_, ((t601 != t587)), tS, H', ⟨by have := HJ15.out; first | omega | exact Nat.le_refl _⟩, ⟨by (with_reducible repeat (first | apply Kd.RqA | apply Kd.RqN | apply Kd.RqD)); exact Kd.R_mono HO_589001.out (fun _ hk => hk.2.2.1)⟩, ⟨by (with_reducible repeat (first | apply Kd.RqA | apply Kd.RqN | apply Kd.RqD)); exact Kd.R_mono HO_603001.out (fun _ hk => hk.2.2.1)⟩, ⟨tG BK574.out⟩, ⟨tG BK588.out⟩, ⟨tG BK602.out⟩, ⟨tB⟩⟩
   replace c73 := Bool.eq_false_iff.mpr c73
   subst c73
   rw [if_neg (show ¬ (false = true) by decide)] at H
   replace H' := Aq.mk H
   clear H
   have hnb80 := NB602_574.out
   have hnc80 := NB574_602.out
   have hnb81 := NB602_588.out
   have hnc81 := NB588_602.out
   have hcz82_0 : w70.cell? ⟨gb602, 0, none⟩ = some (.int .i64 t597) := (kQC BK602.out 0).trans rfl
   have hcz82_1 : w70.cell? ⟨gb602, 1, none⟩ = some (.slice Ao40 t598.length co40) := (kQC BK602.out 1).trans rfl
   have hfz82_0 := kQF BK602.out 0
   have hfz82_1 := kQF BK602.out 1
   have hnb83 := NB588_574.out
   have hnc83 := NB574_588.out
   have hcz84_0 : w70.cell? ⟨gb588, 0, none⟩ = some (.int .i64 t583) := (kQC BK588.out 0).trans rfl
   have hcz84_1 : w70.cell? ⟨gb588, 1, none⟩ = some (.slice Ao28 t584.length co28) := (kQC BK588.out 1).trans rfl
   have hfz84_0 := kQF BK588.out 0
   have hfz84_1 := kQF BK588.out 1
   go_wp2_with (first | (go_at_call 26; (with_reducible refine (laws_eqMatrix.calls kj15 t597 _ _ t598 t583 _ _ t584 false _ ?s1 ?s2 ?s3 ?s4 A72.out).mono ?_); (case s1 => exact tC ((Kd.R_reads' HO_603001.out).2.2)); (case s2 => exact (Kd.R_reads' HO_603001.out).2.1); (case s3 => exact tC ((Kd.R_reads' HO_589001.out).2.2)); (case s4 => exact (Kd.R_reads' HO_589001.out).2.1); rintro e w85 ⟨rfl, hb⟩; refine qM10 (Kd.R_below (tR HO_9.out) hb) (Kd.R_below (tR HO_10.out) hb) (Kd.R_below (tR HO_589001.out) hb) (Kd.R_below (tR HO_603001.out) hb) (Kd.R_below (tR HO606.out) hb) (Kd.R_below (tR HO610.out) hb) (tQ BK574.out hb) (tQ BK588.out hb) (tQ BK602.out hb) (bQT tB hb) ?_; clear HO_9 HO_10 HO_589001 HO_603001 HO606 HO610 BK574 BK588 BK602 HB; intro HO_9 HO_10 HO_589001 HO_603001 HO606 HO610 BK574 BK588 BK602 HB; (try clear hb); (try clear hb2); (try clear hk); (try clear hi)))
   go_meet
   case rel => exact ⟨_, (true), tS, H', ⟨by have := HJ15.out; first | omega | exact Nat.le_refl _⟩, ⟨by (with_reducible repeat (first | apply Kd.RqA | apply Kd.RqN | apply Kd.RqD)); exact Kd.R_mono HO_589001.out (fun _ hk => hk.2.2.1)⟩, ⟨by (with_reducible repeat (first | apply Kd.RqA | apply Kd.RqN | apply Kd.RqD)); exact Kd.R_mono HO_603001.out (fun _ hk => hk.2.2.1)⟩, ⟨tG BK574.out⟩, ⟨tG BK588.out⟩, ⟨tG BK602.out⟩, ⟨tB⟩⟩
  clear HC64
  try clear c1
  try clear c2
  try clear c4
  try clear c4b0
  try clear c4b1
  try clear c6
  try clear c6b0
  try clear c6b1
  try clear c42
  try clear c55
  try clear c58
  try clear c61
  try clear c71
  try clear c71b0
  try clear c73
  try clear hcz18_0
  try clear hcz18_1
  try clear hcz27_0
  try clear hcz27_1
  try clear hcz31_0
  try clear hcz31_1
  try clear hcz39_0
  try clear hcz39_1
  try clear hcz45_0
  try clear hcz45_1
  try clear hcz47_0
  try clear hcz47_1
  try clear hcz51_0
  try clear hcz51_1
  try clear hcz53_0
  try clear hcz53_1
  try clear hcz76_0
  try clear hcz76_1
  try clear hcz78_0
  try clear hcz78_1
  try clear hcz82_0
  try clear hcz82_1
  try clear hcz84_0
  try clear hcz84_1
  try clear hfz18_0
  try clear hfz18_1
  try clear hfz27_0
  try clear hfz27_1
  try clear hfz31_0
  try clear hfz31_1
  try clear hfz39_0
  try clear hfz39_1
  try clear hfz45_0
  try clear hfz45_1
  try clear hfz47_0
  try clear hfz47_1
  try clear hfz51_0
  try clear hfz51_1
  try clear hfz53_0
  try clear hfz53_1
  try clear hfz76_0
  try clear hfz76_1
  try clear hfz78_0
  try clear hfz78_1
  try clear hfz82_0
  try clear hfz82_1
  try clear hfz84_0
  try clear hfz84_1
  obtain ⟨kq, x83_63, rfl, HA, HJ63, HO_589001, HO_603001, BK574, BK588, BK602, HB⟩ := hcut
  cases kq with
  | zero => exact absurd HA.out (by simp [laws_FnExactMatrixOfLinear.j1])
  | succ kj63 =>
   have H := HA.out
   clear HA
   simp only [laws_FnExactMatrixOfLinear.j1] at H
   by_cases c86 : x83_63 = true
   ·subst c86
    rw [if_pos rfl] at H
    obtain rfl := Option.some.inj H
    go_wp2
    go_ret
    exact ⟨tE, tB⟩
   replace c86 := Bool.eq_false_iff.mpr c86
   subst c86
   rw [if_neg (show ¬ (false = true) by decide)] at H
   obtain ⟨⟨t617, t618⟩, A87, H⟩ := qBd H
   (try dsimp only at H)
   obtain ⟨t619, A88, H⟩ := qBd H
   by_cases c89 : t619 < 0
   ·rw [if_pos c89] at H
    have c89b0 := decide_eq_true c89
    clear c89
    obtain rfl := Option.some.inj H
    have hnb90 := NB602_574.out
    have hnc90 := NB574_602.out
    have hnb91 := NB602_588.out
    have hnc91 := NB588_602.out
    have hcz92_0 : wc.cell? ⟨gb602, 0, none⟩ = some (.int .i64 t597) := (kQC BK602.out 0).trans rfl
    have hcz92_1 : wc.cell? ⟨gb602, 1, none⟩ = some (.slice Ao40 t598.length co40) := (kQC BK602.out 1).trans rfl
    have hfz92_0 := kQF BK602.out 0
    have hfz92_1 := kQF BK602.out 1
    go_wp2_with (first | ((with_reducible refine gQc (f := 27) rfl ?_); refine goesL_ (some 86) rfl rfl Try.func27 (by kernel_rfl) rfl #[.agg #[.int .i64 t597, .slice Ao40 t598.length co40], .int .i64 1] rfl tL ?_; (with_reducible refine (laws_markMatrix.calls kj63 t597 (fun k_ => some k_ = (.slice Ao40 t598.length co40 : Value).ownBlock) (.slice Ao40 t598.length co40) t598 1 t617 t618 w _ ?s1 ?s2 A87.out).mono ?_); (case s1 => exact tB); (case s2 => exact Kd.R_tight rfl HO_603001.out); rintro e w93 ⟨rfl, hy0, hb, hkp⟩; refine ⟨_, rfl, ?_⟩; refine qM6 (Kd.R_mono (ok' := fun k_ => some k_ ≠ (.slice Ao40 t598.length co40 : Value).ownBlock) (Kd.R_keptB (HO_589001.out) hkp (fun k_ hk_ hs_ => (hk_) hs_)) (fun k_ hk_ => hk_.1)) (Kd.R_reok rfl hy0 (fun k_ e_ => HO_603001.out.1 k_ e_)) (blk_kept (tG BK574.out) hkp (fun hs_ => (fun e_ => (Kd.R_ne HO_603001.out BK574.out (by decide)) e_) hs_)) (blk_kept (tG BK588.out) hkp (fun hs_ => (fun e_ => (Kd.R_ne HO_603001.out BK588.out (by decide)) e_) hs_)) (blk_kept (tG BK602.out) hkp (fun hs_ => (fun e_ => (Kd.R_ne HO_603001.out BK602.out (by decide)) e_) hs_)) hb ?_; clear HO_589001 HO_603001 BK574 BK588 BK602 HB; intro HO_589001 HO_603001 BK574 BK588 BK602 HB; (try clear hb); (try clear hkp); (try clear hy0); have hcz94_0 : w93.cell? ⟨gb602, 0, none⟩ = some (.int .i64 t597) := (kQC BK602.out 0).trans rfl; have hcz94_1 : w93.cell? ⟨gb602, 1, none⟩ = some (.slice Ao40 t598.length co40) := (kQC BK602.out 1).trans rfl; have hfz94_0 := kQF BK602.out 0; have hfz94_1 := kQF BK602.out 1) | ((with_reducible refine gQc (f := 28) rfl ?_); refine goesL_ (some 89) rfl rfl Try.func28 (by kernel_rfl) rfl #[.agg #[.int .i64 t597, .slice Ao40 t618.length co40], .int .i64 1] rfl (by (try simp only [List.map_toArray, List.map_cons, List.map_nil]); first | done | (rw [show t618.length = t598.length from (Kd.R_reads' HO_603001.out).1.symm] <;> rfl) | rfl | (simp only [List.length_drop, List.length_take]; rfl)) ?_; (with_reducible refine (laws_heldMatrix.calls kj63 t597 _ _ t618 1 t619 _ ?s1 ?s2 A88.out).mono ?_); (case s1 => exact tC ((Kd.R_reads' HO_603001.out).2.2)); (case s2 => rw [show t618.length = t598.length from (Kd.R_reads' HO_603001.out).1.symm]; exact (Kd.R_reads' HO_603001.out).2.1); rintro e w95 ⟨rfl, hb⟩; refine ⟨_, rfl, ?_⟩; refine qM6 (Kd.R_below (tR HO_589001.out) hb) (Kd.R_below (tR HO_603001.out) hb) (tQ BK574.out hb) (tQ BK588.out hb) (tQ BK602.out hb) (bQT tB hb) ?_; clear HO_589001 HO_603001 BK574 BK588 BK602 HB; intro HO_589001 HO_603001 BK574 BK588 BK602 HB; (try clear hb); (try clear hb2); (try clear hk); (try clear hi)))
    go_ret
    exact ⟨tE, tB⟩
   rw [if_neg c89] at H
   have c89b0 := decide_eq_false c89
   clear c89
   by_cases c96 : t619 = t617
   rotate_left
   ·rw [if_neg c96] at H
    have c96b0 := beq_eq_false_iff_ne.mpr c96
    have c96b1 := bne_iff_ne.mpr c96
    obtain rfl := Option.some.inj H
    have hnb159 := NB602_574.out
    have hnc159 := NB574_602.out
    have hnb160 := NB602_588.out
    have hnc160 := NB588_602.out
    have hcz161_0 : wc.cell? ⟨gb602, 0, none⟩ = some (.int .i64 t597) := (kQC BK602.out 0).trans rfl
    have hcz161_1 : wc.cell? ⟨gb602, 1, none⟩ = some (.slice Ao40 t598.length co40) := (kQC BK602.out 1).trans rfl
    have hfz161_0 := kQF BK602.out 0
    have hfz161_1 := kQF BK602.out 1
    go_wp2_with (first | ((with_reducible refine gQc (f := 27) rfl ?_); refine goesL_ (some 86) rfl rfl Try.func27 (by kernel_rfl) rfl #[.agg #[.int .i64 t597, .slice Ao40 t598.length co40], .int .i64 1] rfl tL ?_; (with_reducible refine (laws_markMatrix.calls kj63 t597 (fun k_ => some k_ = (.slice Ao40 t598.length co40 : Value).ownBlock) (.slice Ao40 t598.length co40) t598 1 t617 t618 w _ ?s1 ?s2 A87.out).mono ?_); (case s1 => exact tB); (case s2 => exact Kd.R_tight rfl HO_603001.out); rintro e w162 ⟨rfl, hy0, hb, hkp⟩; refine ⟨_, rfl, ?_⟩; refine qM6 (Kd.R_mono (ok' := fun k_ => some k_ ≠ (.slice Ao40 t598.length co40 : Value).ownBlock) (Kd.R_keptB (HO_589001.out) hkp (fun k_ hk_ hs_ => (hk_) hs_)) (fun k_ hk_ => hk_.1)) (Kd.R_reok rfl hy0 (fun k_ e_ => HO_603001.out.1 k_ e_)) (blk_kept (tG BK574.out) hkp (fun hs_ => (fun e_ => (Kd.R_ne HO_603001.out BK574.out (by decide)) e_) hs_)) (blk_kept (tG BK588.out) hkp (fun hs_ => (fun e_ => (Kd.R_ne HO_603001.out BK588.out (by decide)) e_) hs_)) (blk_kept (tG BK602.out) hkp (fun hs_ => (fun e_ => (Kd.R_ne HO_603001.out BK602.out (by decide)) e_) hs_)) hb ?_; clear HO_589001 HO_603001 BK574 BK588 BK602 HB; intro HO_589001 HO_603001 BK574 BK588 BK602 HB; (try clear hb); (try clear hkp); (try clear hy0); have hcz163_0 : w162.cell? ⟨gb602, 0, none⟩ = some (.int .i64 t597) := (kQC BK602.out 0).trans rfl; have hcz163_1 : w162.cell? ⟨gb602, 1, none⟩ = some (.slice Ao40 t598.length co40) := (kQC BK602.out 1).trans rfl; have hfz163_0 := kQF BK602.out 0; have hfz163_1 := kQF BK602.out 1) | ((with_reducible refine gQc (f := 28) rfl ?_); refine goesL_ (some 89) rfl rfl Try.func28 (by kernel_rfl) rfl #[.agg #[.int .i64 t597, .slice Ao40 t618.length co40], .int .i64 1] rfl (by (try simp only [List.map_toArray, List.map_cons, List.map_nil]); first | done | (rw [show t618.length = t598.length from (Kd.R_reads' HO_603001.out).1.symm] <;> rfl) | rfl | (simp only [List.length_drop, List.length_take]; rfl)) ?_; (with_reducible refine (laws_heldMatrix.calls kj63 t597 _ _ t618 1 t619 _ ?s1 ?s2 A88.out).mono ?_); (case s1 => exact tC ((Kd.R_reads' HO_603001.out).2.2)); (case s2 => rw [show t618.length = t598.length from (Kd.R_reads' HO_603001.out).1.symm]; exact (Kd.R_reads' HO_603001.out).2.1); rintro e w164 ⟨rfl, hb⟩; refine ⟨_, rfl, ?_⟩; refine qM6 (Kd.R_below (tR HO_589001.out) hb) (Kd.R_below (tR HO_603001.out) hb) (tQ BK574.out hb) (tQ BK588.out hb) (tQ BK602.out hb) (bQT tB hb) ?_; clear HO_589001 HO_603001 BK574 BK588 BK602 HB; intro HO_589001 HO_603001 BK574 BK588 BK602 HB; (try clear hb); (try clear hb2); (try clear hk); (try clear hi)))
    go_ret
    exact ⟨tE, tB⟩
   rw [if_pos c96] at H
   have c96b0 := beq_iff_eq.mpr c96
   have c96b1 := bne_eq_false_iff_eq.mpr c96
   clear c96
   obtain ⟨⟨t620, t621⟩, A97, H⟩ := qBd H
   (try dsimp only at H)
   obtain ⟨t622, A98, H⟩ := qBd H
   obtain ⟨t625, A99, H⟩ := qBd H
   obtain ⟨⟨t628, t629, t632⟩, A100, H⟩ := qBd H
   (try dsimp only at H)
   have HC101 := Aq.mk H
   clear H
   have hnb102 := NB602_574.out
   have hnc102 := NB574_602.out
   have hnb103 := NB602_588.out
   have hnc103 := NB588_602.out
   have hcz104_0 : wc.cell? ⟨gb602, 0, none⟩ = some (.int .i64 t597) := (kQC BK602.out 0).trans rfl
   have hcz104_1 : wc.cell? ⟨gb602, 1, none⟩ = some (.slice Ao40 t598.length co40) := (kQC BK602.out 1).trans rfl
   have hfz104_0 := kQF BK602.out 0
   have hfz104_1 := kQF BK602.out 1
   go_upto_region 29 with (first | ((with_reducible refine gQc (f := 27) rfl ?_); refine goesL_ (some 86) rfl rfl Try.func27 (by kernel_rfl) rfl #[.agg #[.int .i64 t597, .slice Ao40 t598.length co40], .int .i64 1] rfl tL ?_; (with_reducible refine (laws_markMatrix.calls kj63 t597 (fun k_ => some k_ = (.slice Ao40 t598.length co40 : Value).ownBlock) (.slice Ao40 t598.length co40) t598 1 t617 t618 w _ ?s1 ?s2 A87.out).mono ?_); (case s1 => exact tB); (case s2 => exact Kd.R_tight rfl HO_603001.out); rintro e w105 ⟨rfl, hy0, hb, hkp⟩; refine ⟨_, rfl, ?_⟩; refine qM6 (Kd.R_mono (ok' := fun k_ => some k_ ≠ (.slice Ao40 t598.length co40 : Value).ownBlock) (Kd.R_keptB (HO_589001.out) hkp (fun k_ hk_ hs_ => (hk_) hs_)) (fun k_ hk_ => hk_.1)) (Kd.R_reok rfl hy0 (fun k_ e_ => HO_603001.out.1 k_ e_)) (blk_kept (tG BK574.out) hkp (fun hs_ => (fun e_ => (Kd.R_ne HO_603001.out BK574.out (by decide)) e_) hs_)) (blk_kept (tG BK588.out) hkp (fun hs_ => (fun e_ => (Kd.R_ne HO_603001.out BK588.out (by decide)) e_) hs_)) (blk_kept (tG BK602.out) hkp (fun hs_ => (fun e_ => (Kd.R_ne HO_603001.out BK602.out (by decide)) e_) hs_)) hb ?_; clear HO_589001 HO_603001 BK574 BK588 BK602 HB; intro HO_589001 HO_603001 BK574 BK588 BK602 HB; (try clear hb); (try clear hkp); (try clear hy0); have hcz106_0 : w105.cell? ⟨gb602, 0, none⟩ = some (.int .i64 t597) := (kQC BK602.out 0).trans rfl; have hcz106_1 : w105.cell? ⟨gb602, 1, none⟩ = some (.slice Ao40 t598.length co40) := (kQC BK602.out 1).trans rfl; have hfz106_0 := kQF BK602.out 0; have hfz106_1 := kQF BK602.out 1) | ((with_reducible refine gQc (f := 28) rfl ?_); refine goesL_ (some 89) rfl rfl Try.func28 (by kernel_rfl) rfl #[.agg #[.int .i64 t597, .slice Ao40 t618.length co40], .int .i64 1] rfl (by (try simp only [List.map_toArray, List.map_cons, List.map_nil]); first | done | (rw [show t618.length = t598.length from (Kd.R_reads' HO_603001.out).1.symm] <;> rfl) | rfl | (simp only [List.length_drop, List.length_take]; rfl)) ?_; (with_reducible refine (laws_heldMatrix.calls kj63 t597 _ _ t618 1 t619 _ ?s1 ?s2 A88.out).mono ?_); (case s1 => exact tC ((Kd.R_reads' HO_603001.out).2.2)); (case s2 => rw [show t618.length = t598.length from (Kd.R_reads' HO_603001.out).1.symm]; exact (Kd.R_reads' HO_603001.out).2.1); rintro e w107 ⟨rfl, hb⟩; refine ⟨_, rfl, ?_⟩; refine qM6 (Kd.R_below (tR HO_589001.out) hb) (Kd.R_below (tR HO_603001.out) hb) (tQ BK574.out hb) (tQ BK588.out hb) (tQ BK602.out hb) (bQT tB hb) ?_; clear HO_589001 HO_603001 BK574 BK588 BK602 HB; intro HO_589001 HO_603001 BK574 BK588 BK602 HB; (try clear hb); (try clear hb2); (try clear hk); (try clear hi); have hnb108 := NB574_588.out; have hnc108 := NB588_574.out; have hcz109_0 : w107.cell? ⟨gb574, 0, none⟩ = some (.int .i64 a0_0) := (kQC BK574.out 0).trans rfl; have hcz109_1 : w107.cell? ⟨gb574, 1, none⟩ = some (.int .i64 a0_1) := (kQC BK574.out 1).trans rfl; have hfz109_0 := kQF BK574.out 0; have hfz109_1 := kQF BK574.out 1) | ((with_reducible refine gQc (f := 10) rfl ?_); refine goesL_ (some 97) rfl rfl Try.func10 (by kernel_rfl) rfl #[.agg #[.int .i64 a0_0, .int .i64 a0_1]] rfl tL ?_; (with_reducible refine (laws_toField.calls a0_0 a0_1 t620 t621 _ A97.out).mono ?_); rintro e w110 ⟨rfl, hb⟩; refine ⟨_, rfl, ?_⟩; refine qM6 (Kd.R_below (tR HO_589001.out) hb) (Kd.R_below (tR HO_603001.out) hb) (tQ BK574.out hb) (tQ BK588.out hb) (tQ BK602.out hb) (bQT tB hb) ?_; clear HO_589001 HO_603001 BK574 BK588 BK602 HB; intro HO_589001 HO_603001 BK574 BK588 BK602 HB; (try clear hb); (try clear hb2); (try clear hk); (try clear hi)) | ((with_reducible refine gQc (f := 18) rfl ?_); refine goesL_ (some 99) rfl rfl Try.func18 (by kernel_rfl) rfl #[.slice A1 l1.length c1] rfl tL ?_; (with_reducible refine (laws_toInt64S.calls kj63 _ _ l1 t622 _ ?s1 ?s2 A98.out).mono ?_); (case s1 => exact tC ((Kd.C_below HR1.out HB.out))); (case s2 => exact HC1.out); rintro e w111 ⟨v623, rfl, ho0, hb⟩; refine ⟨_, rfl, ?_⟩; refine qM7 (Kd.R_elder' (tR HO_589001.out) (Kd.R_base ho0) hb) (Kd.R_elder' (tR HO_603001.out) (Kd.R_base ho0) hb) (Kd.R_lower (Kd.R_new' (Kd.R_new' ho0 (Kd.R_lt (tR HO_589001.out))) (Kd.R_lt (tR HO_603001.out))) (bQZ tB)) (tQ BK574.out hb) (tQ BK588.out hb) (tQ BK602.out hb) (bQT tB hb) ?_; clear HO_589001 HO_603001 BK574 BK588 BK602 HB; intro HO_589001 HO_603001 HO624 BK574 BK588 BK602 HB; (try clear hb); (try clear hb2); (try clear hk); (try clear hi); (try clear ho0)) | ((with_reducible refine gQc (f := 18) rfl ?_); refine goesL_ (some 101) rfl rfl Try.func18 (by kernel_rfl) rfl #[.slice A2 l2.length c2] rfl tL ?_; (with_reducible refine (laws_toInt64S.calls kj63 _ _ l2 t625 _ ?s1 ?s2 A99.out).mono ?_); (case s1 => exact tC ((Kd.C_below HR2.out HB.out))); (case s2 => exact HC2.out); rintro e w112 ⟨v626, rfl, ho0, hb⟩; refine ⟨_, rfl, ?_⟩; refine qM8 (Kd.R_elder' (tR HO_589001.out) (Kd.R_base ho0) hb) (Kd.R_elder' (tR HO_603001.out) (Kd.R_base ho0) hb) (Kd.R_elder' (tR HO624.out) (Kd.R_base ho0) hb) (Kd.R_lower (Kd.R_new' (Kd.R_new' (Kd.R_new' ho0 (Kd.R_lt (tR HO_589001.out))) (Kd.R_lt (tR HO_603001.out))) (Kd.R_lt (tR HO624.out))) (bQZ tB)) (tQ BK574.out hb) (tQ BK588.out hb) (tQ BK602.out hb) (bQT tB hb) ?_; clear HO_589001 HO_603001 HO624 BK574 BK588 BK602 HB; intro HO_589001 HO_603001 HO624 HO627 BK574 BK588 BK602 HB; (try clear hb); (try clear hb2); (try clear hk); (try clear hi); (try clear ho0); obtain ⟨Ao113, co113, eo113⟩ := Kd.R_slice HO624.out; subst eo113; obtain ⟨Ao114, co114, eo114⟩ := Kd.R_slice HO627.out; subst eo114) | ((with_reducible refine gQc (f := 25) rfl ?_); refine goesL_ (some 102) rfl rfl Try.func25 (by kernel_rfl) rfl #[.agg #[.int .i64 t620, .int .i64 t621], .slice Ao113 t622.length co113, .slice Ao114 t625.length co114] rfl tL ?_; (with_reducible refine (impl_MatrixOfLinear.calls kj63 t620 t621 _ _ t622 (fun k_ => some k_ = (.slice Ao114 t625.length co114 : Value).ownBlock) _ _ t625 t628 t629 t632 _ ?s1 ?s2 ?s3 A100.out).mono ?_); (case s1 => exact tC ((Kd.R_reads' HO624.out).2.2)); (case s2 => exact (Kd.R_reads' HO624.out).2.1); (case s3 => exact Kd.R_V (Kd.R_tight rfl (Kd.R_types (Kd.R_types (Kd.R_types (HO627.out) BK574.out (by decide)) BK588.out (by decide)) BK602.out (by decide)))); rintro e w115 ⟨v630, rfl, ho0, hb⟩; refine ⟨_, rfl, ?_⟩; refine qM9 (Kd.R_elder' (tR HO_589001.out) (Kd.R_base ho0) hb) (Kd.R_elder' (tR HO_603001.out) (Kd.R_base ho0) hb) (Kd.R_elder' (tR HO624.out) (Kd.R_base ho0) hb) (Kd.R_elder' (tR HO627.out) (Kd.R_base ho0) hb) (Kd.R_lower (Kd.R_new' (Kd.R_new' (Kd.R_new' (Kd.R_new' (Kd.R_mono (ok' := fun k_ => True) ho0 (fun _ hk_ => trivial)) (Kd.R_lt (tR HO_589001.out))) (Kd.R_lt (tR HO_603001.out))) (Kd.R_lt (tR HO624.out))) (Kd.R_lt (tR HO627.out))) (bQZ tB)) (tQ BK574.out hb) (tQ BK588.out hb) (tQ BK602.out hb) (bQT tB hb) ?_; clear HO_589001 HO_603001 HO624 HO627 BK574 BK588 BK602 HB; intro HO_589001 HO_603001 HO624 HO627 HO631 BK574 BK588 BK602 HB; (try clear hb); (try clear hb2); (try clear hk); (try clear hi); (try clear ho0)) | ((with_reducible refine gQd (N := 16) rfl ?_); refine xQe ?hg (N := 16) ?hd (cs := #[.int .i64 0, .slice none 0 0]) (t := 41) ?hr ?_; (case hd => rfl); (case hg => rfl); (case hr => exact tH); intro gb633 hg w116 hbox hb; refine qM18 (Kd.R_below (tR HO_589001.out) hb) (Kd.R_below (tR HO_603001.out) hb) (Kd.R_below (tR HO624.out) hb) (Kd.R_below (tR HO627.out) hb) (Kd.R_below (tR HO631.out) hb) (tQ BK574.out hb) (tQ BK588.out hb) (tQ BK602.out hb) (bQT tB hb) hbox (tZ w hg) (tZ w hg) ((by rw [hg]; exact Nat.ne_of_lt (blk_lt (g := gb574) (o := .cells #[.int .i64 a0_0, .int .i64 a0_1] 23 (0, 0)) (tG BK574.out)) : gb574 ≠ gb633)) ((by rw [hg]; exact Nat.ne_of_gt (blk_lt (g := gb574) (o := .cells #[.int .i64 a0_0, .int .i64 a0_1] 23 (0, 0)) (tG BK574.out)) : gb633 ≠ gb574)) ((by rw [hg]; exact Nat.ne_of_lt (blk_lt (g := gb588) (o := .cells #[.int .i64 t583, .slice Ao28 t584.length co28] 41 (0, 0)) (tG BK588.out)) : gb588 ≠ gb633)) ((by rw [hg]; exact Nat.ne_of_gt (blk_lt (g := gb588) (o := .cells #[.int .i64 t583, .slice Ao28 t584.length co28] 41 (0, 0)) (tG BK588.out)) : gb633 ≠ gb588)) ((by rw [hg]; exact Nat.ne_of_lt (blk_lt (g := gb602) (o := .cells #[.int .i64 t597, .slice Ao40 t598.length co40] 41 (0, 0)) (tG BK602.out)) : gb602 ≠ gb633)) ((by rw [hg]; exact Nat.ne_of_gt (blk_lt (g := gb602) (o := .cells #[.int .i64 t597, .slice Ao40 t598.length co40] 41 (0, 0)) (tG BK602.out)) : gb633 ≠ gb602)) ?_; clear HO_589001 HO_603001 HO624 HO627 HO631 BK574 BK588 BK602 HB; intro HO_589001 HO_603001 HO624 HO627 HO631 BK574 BK588 BK602 HB BK633 GW633 GE633 NB574_633 NB633_574 NB588_633 NB633_588 NB602_633 NB633_602; clear hb hbox hg; have hnb117 := NB633_574.out; have hnc117 := NB574_633.out; have hnb118 := NB633_588.out; have hnc118 := NB588_633.out; have hnb119 := NB633_602.out; have hnc119 := NB602_633.out; have hcz120_0 : w116.cell? ⟨gb633, 0, none⟩ = some (.int .i64 0) := (kQC BK633.out 0).trans rfl; have hcz120_1 : w116.cell? ⟨gb633, 1, none⟩ = some (.slice none 0 0) := (kQC BK633.out 1).trans rfl; have hfz120_0 := kQF BK633.out 0; have hfz120_1 := kQF BK633.out 1; obtain ⟨Ao121, co121, eo121⟩ := Kd.R_slice HO631.out; subst eo121))
   (try simp only [Act.put, qSa, qSb, qSc])
   go_cut [113] (fun v113 wc => ∃ (kq : Nat) (x113_100 : Bool), v113 = .bool x113_100 ∧ Aq (laws_FnExactMatrixOfLinear.j2 kq t617 x113_100 t597 t618 = some r) ∧ Aq (kq ≤ kj63) ∧ Aq (Kd.R (Kd.int .i64) 2 wc w.heap.size (fun k_ => some k_ ≠ ((.slice Ao40 t598.length co40) : Value).ownBlock ∧ some k_ ≠ ((.slice Ao121 t629.length co121) : Value).ownBlock) (.slice Ao28 t584.length co28) t584) ∧ Aq (Kd.R (Kd.int .i64) 2 wc w.heap.size (fun k_ => some k_ ≠ ((.slice Ao28 t584.length co28) : Value).ownBlock ∧ some k_ ≠ ((.slice Ao121 t629.length co121) : Value).ownBlock) (.slice Ao40 t598.length co40) t618) ∧ Aq (Kd.R (Kd.int .i64) 2 wc w.heap.size (fun k_ => some k_ ≠ ((.slice Ao28 t584.length co28) : Value).ownBlock ∧ some k_ ≠ ((.slice Ao40 t598.length co40) : Value).ownBlock) (.slice Ao121 t629.length co121) t629) ∧ Aq (wc.heap[gb574]? = some (.cells #[.int .i64 a0_0, .int .i64 a0_1] 23 (0, 0))) ∧ Aq (wc.heap[gb588]? = some (.cells #[.int .i64 t583, (.slice Ao28 t584.length co28)] 41 (0, 0))) ∧ Aq (wc.heap[gb602]? = some (.cells #[.int .i64 t597, (.slice Ao40 t598.length co40)] 41 (0, 0))) ∧ Aq (wc.heap[gb633]? = some (.cells #[.int .i64 t628, (.slice Ao121 t629.length co121)] 41 (0, 0))) ∧ Aq (Below w.heap.size w wc))
   case first =>
    have H := HC101.out
    clear HC101
    obtain ⟨t634, A122, H⟩ := qBd H
    by_cases c123 : t634 = true
    ·subst c123
     rw [if_pos rfl] at H
     replace H' := Aq.mk H
     clear H
     have hnb124 := NB633_574.out
     have hnc124 := NB574_633.out
     have hnb125 := NB633_588.out
     have hnc125 := NB588_633.out
     have hnb126 := NB633_602.out
     have hnc126 := NB602_633.out
     have hcz127_0 : w116.cell? ⟨gb633, 0, none⟩ = some (.int .i64 0) := (kQC BK633.out 0).trans rfl
     have hcz127_1 : w116.cell? ⟨gb633, 1, none⟩ = some (.slice none 0 0) := (kQC BK633.out 1).trans rfl
     have hfz127_0 := kQF BK633.out 0
     have hfz127_1 := kQF BK633.out 1
     have hnb128 := NB588_574.out
     have hnc128 := NB574_588.out
     have hnb129 := NB588_602.out
     have hnc129 := NB602_588.out
     have hcz130_0 : w116.cell? ⟨gb588, 0, none⟩ = some (.int .i64 t583) := (kQC BK588.out 0).trans rfl
     have hcz130_1 : w116.cell? ⟨gb588, 1, none⟩ = some (.slice Ao28 t584.length co28) := (kQC BK588.out 1).trans rfl
     have hfz130_0 := kQF BK588.out 0
     have hfz130_1 := kQF BK588.out 1
     go_wp2_with (first | ((with_reducible refine gQc (f := 26) rfl ?_); refine goesL_ (some 107) rfl rfl Try.func26 (by kernel_rfl) rfl #[.agg #[.int .i64 t628, .slice Ao121 t629.length co121], .agg #[.int .i64 t583, .slice Ao28 t584.length co28]] rfl tL ?_; (with_reducible refine (laws_eqMatrix.calls kj63 t628 _ _ t629 t583 _ _ t584 true _ ?s1 ?s2 ?s3 ?s4 A122.out).mono ?_); (case s1 => refine (Kd.R_reads' (e := 2) (base := w.heap.size) (ok := fun k_ => ((((True ∧ some k_ ≠ (.slice Ao28 t584.length co28 : Value).ownBlock) ∧ some k_ ≠ (.slice Ao40 t598.length co40 : Value).ownBlock) ∧ some k_ ≠ (.slice Ao113 t622.length co113 : Value).ownBlock) ∧ some k_ ≠ (.slice Ao114 t625.length co114 : Value).ownBlock)) (n := t629.length) (c := co121) ?_).2.2; exact (by (with_reducible repeat (first | apply Kd.RqA | apply Kd.RqN | apply Kd.RqD)); exact (Kd.R_mono (Kd.R_far (p := ⟨gb633, 1, none⟩) (Kd.R_far (p := ⟨gb633, 0, none⟩) (Kd.R_types HO631.out BK633.out (by decide)) (fun _ hk => hk.2) (.int .i64 t628)) (fun _ hk => hk.2) (.slice Ao121 t629.length co121)) (fun _ h_ => h_.1)))); (case s2 => exact (Kd.R_reads' HO631.out).2.1); (case s3 => refine (Kd.R_reads' (e := 2) (base := w.heap.size) (ok := fun k_ => (((some k_ ≠ (.slice Ao40 t598.length co40 : Value).ownBlock ∧ some k_ ≠ (.slice Ao113 t622.length co113 : Value).ownBlock) ∧ some k_ ≠ (.slice Ao114 t625.length co114 : Value).ownBlock) ∧ some k_ ≠ (.slice Ao121 t629.length co121 : Value).ownBlock)) (n := t584.length) (c := co28) ?_).2.2; exact (by (with_reducible repeat (first | apply Kd.RqA | apply Kd.RqN | apply Kd.RqD)); exact (Kd.R_mono (Kd.R_far (p := ⟨gb633, 1, none⟩) (Kd.R_far (p := ⟨gb633, 0, none⟩) (Kd.R_types HO_589001.out BK633.out (by decide)) (fun _ hk => hk.2) (.int .i64 t628)) (fun _ hk => hk.2) (.slice Ao121 t629.length co121)) (fun _ h_ => h_.1)))); (case s4 => exact (Kd.R_reads' HO_589001.out).2.1); rintro e w131 ⟨rfl, hb⟩; refine ⟨_, rfl, ?_⟩; refine qM10 (Kd.R_below (by (with_reducible repeat (first | apply Kd.RqA | apply Kd.RqN | apply Kd.RqD)); exact (Kd.R_mono (Kd.R_far (p := ⟨gb633, 1, none⟩) (Kd.R_far (p := ⟨gb633, 0, none⟩) (Kd.R_types HO_589001.out BK633.out (by decide)) (fun _ hk => hk.2) (.int .i64 t628)) (fun _ hk => hk.2) (.slice Ao121 t629.length co121)) (fun _ h_ => h_.1))) hb) (Kd.R_below (by (with_reducible repeat (first | apply Kd.RqA | apply Kd.RqN | apply Kd.RqD)); exact (Kd.R_mono (Kd.R_far (p := ⟨gb633, 1, none⟩) (Kd.R_far (p := ⟨gb633, 0, none⟩) (Kd.R_types HO_603001.out BK633.out (by decide)) (fun _ hk => hk.2) (.int .i64 t628)) (fun _ hk => hk.2) (.slice Ao121 t629.length co121)) (fun _ h_ => h_.1))) hb) (Kd.R_below (by (with_reducible repeat (first | apply Kd.RqA | apply Kd.RqN | apply Kd.RqD)); exact (Kd.R_mono (Kd.R_far (p := ⟨gb633, 1, none⟩) (Kd.R_far (p := ⟨gb633, 0, none⟩) (Kd.R_types HO624.out BK633.out (by decide)) (fun _ hk => hk.2) (.int .i64 t628)) (fun _ hk => hk.2) (.slice Ao121 t629.length co121)) (fun _ h_ => h_.1))) hb) (Kd.R_below (by (with_reducible repeat (first | apply Kd.RqA | apply Kd.RqN | apply Kd.RqD)); exact (Kd.R_mono (Kd.R_far (p := ⟨gb633, 1, none⟩) (Kd.R_far (p := ⟨gb633, 0, none⟩) (Kd.R_types HO627.out BK633.out (by decide)) (fun _ hk => hk.2) (.int .i64 t628)) (fun _ hk => hk.2) (.slice Ao121 t629.length co121)) (fun _ h_ => h_.1))) hb) (Kd.R_below (by (with_reducible repeat (first | apply Kd.RqA | apply Kd.RqN | apply Kd.RqD)); exact (Kd.R_mono (Kd.R_far (p := ⟨gb633, 1, none⟩) (Kd.R_far (p := ⟨gb633, 0, none⟩) (Kd.R_types HO631.out BK633.out (by decide)) (fun _ hk => hk.2) (.int .i64 t628)) (fun _ hk => hk.2) (.slice Ao121 t629.length co121)) (fun _ h_ => h_.1))) hb) (kQB (g := gb574) (o := .cells #[.int .i64 a0_0, .int .i64 a0_1] 23 (0, 0)) (by (with_reducible repeat (first | refine kQN ?_ _ | refine kQD ?_ | refine kQA ?_ _)); refine kQR ?_ NB574_633.out _; (with_reducible repeat (first | refine kQN ?_ _ | refine kQD ?_ | refine kQA ?_ _)); refine kQR ?_ NB574_633.out _; (with_reducible repeat (first | refine kQN ?_ _ | refine kQD ?_ | refine kQA ?_ _)); exact BK574.out) hb) (kQB (g := gb588) (o := .cells #[.int .i64 t583, .slice Ao28 t584.length co28] 41 (0, 0)) (by (with_reducible repeat (first | refine kQN ?_ _ | refine kQD ?_ | refine kQA ?_ _)); refine kQR ?_ NB588_633.out _; (with_reducible repeat (first | refine kQN ?_ _ | refine kQD ?_ | refine kQA ?_ _)); refine kQR ?_ NB588_633.out _; (with_reducible repeat (first | refine kQN ?_ _ | refine kQD ?_ | refine kQA ?_ _)); exact BK588.out) hb) (kQB (g := gb602) (o := .cells #[.int .i64 t597, .slice Ao40 t598.length co40] 41 (0, 0)) (by (with_reducible repeat (first | refine kQN ?_ _ | refine kQD ?_ | refine kQA ?_ _)); refine kQR ?_ NB602_633.out _; (with_reducible repeat (first | refine kQN ?_ _ | refine kQD ?_ | refine kQA ?_ _)); refine kQR ?_ NB602_633.out _; (with_reducible repeat (first | refine kQN ?_ _ | refine kQD ?_ | refine kQA ?_ _)); exact BK602.out) hb) (kQB (g := gb633) (o := .cells #[.int .i64 t628, .slice Ao121 t629.length co121] 41 (0, 0)) (by (with_reducible repeat (first | refine kQN ?_ _ | refine kQD ?_ | refine kQA ?_ _)); refine kQP (cs := #[.int .i64 t628, .slice none 0 0]) ?_ 1 _ rfl; (with_reducible repeat (first | refine kQN ?_ _ | refine kQD ?_ | refine kQA ?_ _)); refine kQP (cs := #[.int .i64 0, .slice none 0 0]) ?_ 0 _ rfl; (with_reducible repeat (first | refine kQN ?_ _ | refine kQD ?_ | refine kQA ?_ _)); exact BK633.out) hb) (bQT tB hb) ?_; clear HO_589001 HO_603001 HO624 HO627 HO631 BK574 BK588 BK602 BK633 HB; intro HO_589001 HO_603001 HO624 HO627 HO631 BK574 BK588 BK602 BK633 HB; (try clear hb); (try clear hb2); (try clear hk); (try clear hi)))
     go_meet
     case rel => exact ⟨_, ((t632 != t587)), tS, H', ⟨by have := HJ15.out; have := HJ63.out; first | omega | exact Nat.le_refl _⟩, ⟨by (with_reducible repeat (first | apply Kd.RqA | apply Kd.RqN | apply Kd.RqD)); exact Kd.R_mono HO_589001.out (fun _ hk => ⟨hk.1.1.1, hk.2⟩)⟩, ⟨by (with_reducible repeat (first | apply Kd.RqA | apply Kd.RqN | apply Kd.RqD)); exact Kd.R_mono HO_603001.out (fun _ hk => ⟨hk.1.1.1, hk.2⟩)⟩, ⟨by (with_reducible repeat (first | apply Kd.RqA | apply Kd.RqN | apply Kd.RqD)); exact Kd.R_mono HO631.out (fun _ hk => ⟨hk.1.1.1.2, hk.1.1.2⟩)⟩, ⟨tG BK574.out⟩, ⟨tG BK588.out⟩, ⟨tG BK602.out⟩, ⟨tG BK633.out⟩, ⟨tB⟩⟩
    replace c123 := Bool.eq_false_iff.mpr c123
    subst c123
    rw [if_neg (show ¬ (false = true) by decide)] at H
    replace H' := Aq.mk H
    clear H
    have hnb132 := NB633_574.out
    have hnc132 := NB574_633.out
    have hnb133 := NB633_588.out
    have hnc133 := NB588_633.out
    have hnb134 := NB633_602.out
    have hnc134 := NB602_633.out
    have hcz135_0 : w116.cell? ⟨gb633, 0, none⟩ = some (.int .i64 0) := (kQC BK633.out 0).trans rfl
    have hcz135_1 : w116.cell? ⟨gb633, 1, none⟩ = some (.slice none 0 0) := (kQC BK633.out 1).trans rfl
    have hfz135_0 := kQF BK633.out 0
    have hfz135_1 := kQF BK633.out 1
    have hnb136 := NB588_574.out
    have hnc136 := NB574_588.out
    have hnb137 := NB588_602.out
    have hnc137 := NB602_588.out
    have hcz138_0 : w116.cell? ⟨gb588, 0, none⟩ = some (.int .i64 t583) := (kQC BK588.out 0).trans rfl
    have hcz138_1 : w116.cell? ⟨gb588, 1, none⟩ = some (.slice Ao28 t584.length co28) := (kQC BK588.out 1).trans rfl
    have hfz138_0 := kQF BK588.out 0
    have hfz138_1 := kQF BK588.out 1
    go_wp2_with (first | ((with_reducible refine gQc (f := 26) rfl ?_); refine goesL_ (some 107) rfl rfl Try.func26 (by kernel_rfl) rfl #[.agg #[.int .i64 t628, .slice Ao121 t629.length co121], .agg #[.int .i64 t583, .slice Ao28 t584.length co28]] rfl tL ?_; (with_reducible refine (laws_eqMatrix.calls kj63 t628 _ _ t629 t583 _ _ t584 false _ ?s1 ?s2 ?s3 ?s4 A122.out).mono ?_); (case s1 => refine (Kd.R_reads' (e := 2) (base := w.heap.size) (ok := fun k_ => ((((True ∧ some k_ ≠ (.slice Ao28 t584.length co28 : Value).ownBlock) ∧ some k_ ≠ (.slice Ao40 t598.length co40 : Value).ownBlock) ∧ some k_ ≠ (.slice Ao113 t622.length co113 : Value).ownBlock) ∧ some k_ ≠ (.slice Ao114 t625.length co114 : Value).ownBlock)) (n := t629.length) (c := co121) ?_).2.2; exact (by (with_reducible repeat (first | apply Kd.RqA | apply Kd.RqN | apply Kd.RqD)); exact (Kd.R_mono (Kd.R_far (p := ⟨gb633, 1, none⟩) (Kd.R_far (p := ⟨gb633, 0, none⟩) (Kd.R_types HO631.out BK633.out (by decide)) (fun _ hk => hk.2) (.int .i64 t628)) (fun _ hk => hk.2) (.slice Ao121 t629.length co121)) (fun _ h_ => h_.1)))); (case s2 => exact (Kd.R_reads' HO631.out).2.1); (case s3 => refine (Kd.R_reads' (e := 2) (base := w.heap.size) (ok := fun k_ => (((some k_ ≠ (.slice Ao40 t598.length co40 : Value).ownBlock ∧ some k_ ≠ (.slice Ao113 t622.length co113 : Value).ownBlock) ∧ some k_ ≠ (.slice Ao114 t625.length co114 : Value).ownBlock) ∧ some k_ ≠ (.slice Ao121 t629.length co121 : Value).ownBlock)) (n := t584.length) (c := co28) ?_).2.2; exact (by (with_reducible repeat (first | apply Kd.RqA | apply Kd.RqN | apply Kd.RqD)); exact (Kd.R_mono (Kd.R_far (p := ⟨gb633, 1, none⟩) (Kd.R_far (p := ⟨gb633, 0, none⟩) (Kd.R_types HO_589001.out BK633.out (by decide)) (fun _ hk => hk.2) (.int .i64 t628)) (fun _ hk => hk.2) (.slice Ao121 t629.length co121)) (fun _ h_ => h_.1)))); (case s4 => exact (Kd.R_reads' HO_589001.out).2.1); rintro e w139 ⟨rfl, hb⟩; refine ⟨_, rfl, ?_⟩; refine qM10 (Kd.R_below (by (with_reducible repeat (first | apply Kd.RqA | apply Kd.RqN | apply Kd.RqD)); exact (Kd.R_mono (Kd.R_far (p := ⟨gb633, 1, none⟩) (Kd.R_far (p := ⟨gb633, 0, none⟩) (Kd.R_types HO_589001.out BK633.out (by decide)) (fun _ hk => hk.2) (.int .i64 t628)) (fun _ hk => hk.2) (.slice Ao121 t629.length co121)) (fun _ h_ => h_.1))) hb) (Kd.R_below (by (with_reducible repeat (first | apply Kd.RqA | apply Kd.RqN | apply Kd.RqD)); exact (Kd.R_mono (Kd.R_far (p := ⟨gb633, 1, none⟩) (Kd.R_far (p := ⟨gb633, 0, none⟩) (Kd.R_types HO_603001.out BK633.out (by decide)) (fun _ hk => hk.2) (.int .i64 t628)) (fun _ hk => hk.2) (.slice Ao121 t629.length co121)) (fun _ h_ => h_.1))) hb) (Kd.R_below (by (with_reducible repeat (first | apply Kd.RqA | apply Kd.RqN | apply Kd.RqD)); exact (Kd.R_mono (Kd.R_far (p := ⟨gb633, 1, none⟩) (Kd.R_far (p := ⟨gb633, 0, none⟩) (Kd.R_types HO624.out BK633.out (by decide)) (fun _ hk => hk.2) (.int .i64 t628)) (fun _ hk => hk.2) (.slice Ao121 t629.length co121)) (fun _ h_ => h_.1))) hb) (Kd.R_below (by (with_reducible repeat (first | apply Kd.RqA | apply Kd.RqN | apply Kd.RqD)); exact (Kd.R_mono (Kd.R_far (p := ⟨gb633, 1, none⟩) (Kd.R_far (p := ⟨gb633, 0, none⟩) (Kd.R_types HO627.out BK633.out (by decide)) (fun _ hk => hk.2) (.int .i64 t628)) (fun _ hk => hk.2) (.slice Ao121 t629.length co121)) (fun _ h_ => h_.1))) hb) (Kd.R_below (by (with_reducible repeat (first | apply Kd.RqA | apply Kd.RqN | apply Kd.RqD)); exact (Kd.R_mono (Kd.R_far (p := ⟨gb633, 1, none⟩) (Kd.R_far (p := ⟨gb633, 0, none⟩) (Kd.R_types HO631.out BK633.out (by decide)) (fun _ hk => hk.2) (.int .i64 t628)) (fun _ hk => hk.2) (.slice Ao121 t629.length co121)) (fun _ h_ => h_.1))) hb) (kQB (g := gb574) (o := .cells #[.int .i64 a0_0, .int .i64 a0_1] 23 (0, 0)) (by (with_reducible repeat (first | refine kQN ?_ _ | refine kQD ?_ | refine kQA ?_ _)); refine kQR ?_ NB574_633.out _; (with_reducible repeat (first | refine kQN ?_ _ | refine kQD ?_ | refine kQA ?_ _)); refine kQR ?_ NB574_633.out _; (with_reducible repeat (first | refine kQN ?_ _ | refine kQD ?_ | refine kQA ?_ _)); exact BK574.out) hb) (kQB (g := gb588) (o := .cells #[.int .i64 t583, .slice Ao28 t584.length co28] 41 (0, 0)) (by (with_reducible repeat (first | refine kQN ?_ _ | refine kQD ?_ | refine kQA ?_ _)); refine kQR ?_ NB588_633.out _; (with_reducible repeat (first | refine kQN ?_ _ | refine kQD ?_ | refine kQA ?_ _)); refine kQR ?_ NB588_633.out _; (with_reducible repeat (first | refine kQN ?_ _ | refine kQD ?_ | refine kQA ?_ _)); exact BK588.out) hb) (kQB (g := gb602) (o := .cells #[.int .i64 t597, .slice Ao40 t598.length co40] 41 (0, 0)) (by (with_reducible repeat (first | refine kQN ?_ _ | refine kQD ?_ | refine kQA ?_ _)); refine kQR ?_ NB602_633.out _; (with_reducible repeat (first | refine kQN ?_ _ | refine kQD ?_ | refine kQA ?_ _)); refine kQR ?_ NB602_633.out _; (with_reducible repeat (first | refine kQN ?_ _ | refine kQD ?_ | refine kQA ?_ _)); exact BK602.out) hb) (kQB (g := gb633) (o := .cells #[.int .i64 t628, .slice Ao121 t629.length co121] 41 (0, 0)) (by (with_reducible repeat (first | refine kQN ?_ _ | refine kQD ?_ | refine kQA ?_ _)); refine kQP (cs := #[.int .i64 t628, .slice none 0 0]) ?_ 1 _ rfl; (with_reducible repeat (first | refine kQN ?_ _ | refine kQD ?_ | refine kQA ?_ _)); refine kQP (cs := #[.int .i64 0, .slice none 0 0]) ?_ 0 _ rfl; (with_reducible repeat (first | refine kQN ?_ _ | refine kQD ?_ | refine kQA ?_ _)); exact BK633.out) hb) (bQT tB hb) ?_; clear HO_589001 HO_603001 HO624 HO627 HO631 BK574 BK588 BK602 BK633 HB; intro HO_589001 HO_603001 HO624 HO627 HO631 BK574 BK588 BK602 BK633 HB; (try clear hb); (try clear hb2); (try clear hk); (try clear hi)))
    go_meet
    case rel => exact ⟨_, (true), tS, H', ⟨by have := HJ15.out; have := HJ63.out; first | omega | exact Nat.le_refl _⟩, ⟨by (with_reducible repeat (first | apply Kd.RqA | apply Kd.RqN | apply Kd.RqD)); exact Kd.R_mono HO_589001.out (fun _ hk => ⟨hk.1.1.1, hk.2⟩)⟩, ⟨by (with_reducible repeat (first | apply Kd.RqA | apply Kd.RqN | apply Kd.RqD)); exact Kd.R_mono HO_603001.out (fun _ hk => ⟨hk.1.1.1, hk.2⟩)⟩, ⟨by (with_reducible repeat (first | apply Kd.RqA | apply Kd.RqN | apply Kd.RqD)); exact Kd.R_mono HO631.out (fun _ hk => ⟨hk.1.1.1.2, hk.1.1.2⟩)⟩, ⟨tG BK574.out⟩, ⟨tG BK588.out⟩, ⟨tG BK602.out⟩, ⟨tG BK633.out⟩, ⟨tB⟩⟩
   clear HC101
   try clear c1
   try clear c2
   try clear c4
   try clear c4b0
   try clear c4b1
   try clear c6
   try clear c6b0
   try clear c6b1
   try clear c42
   try clear c55
   try clear c58
   try clear c61
   try clear c71
   try clear c71b0
   try clear c73
   try clear c86
   try clear c89
   try clear c89b0
   try clear c96
   try clear c96b0
   try clear c96b1
   try clear c123
   try clear hcz104_0
   try clear hcz104_1
   try clear hcz106_0
   try clear hcz106_1
   try clear hcz109_0
   try clear hcz109_1
   try clear hcz120_0
   try clear hcz120_1
   try clear hcz127_0
   try clear hcz127_1
   try clear hcz130_0
   try clear hcz130_1
   try clear hcz135_0
   try clear hcz135_1
   try clear hcz138_0
   try clear hcz138_1
   try clear hcz18_0
   try clear hcz18_1
   try clear hcz27_0
   try clear hcz27_1
   try clear hcz31_0
   try clear hcz31_1
   try clear hcz39_0
   try clear hcz39_1
   try clear hcz45_0
   try clear hcz45_1
   try clear hcz47_0
   try clear hcz47_1
   try clear hcz51_0
   try clear hcz51_1
   try clear hcz53_0
   try clear hcz53_1
   try clear hcz76_0
   try clear hcz76_1
   try clear hcz78_0
   try clear hcz78_1
   try clear hcz82_0
   try clear hcz82_1
   try clear hcz84_0
   try clear hcz84_1
   try clear hcz92_0
   try clear hcz92_1
   try clear hcz94_0
   try clear hcz94_1
   try clear hfz104_0
   try clear hfz104_1
   try clear hfz106_0
   try clear hfz106_1
   try clear hfz109_0
   try clear hfz109_1
   try clear hfz120_0
   try clear hfz120_1
   try clear hfz127_0
   try clear hfz127_1
   try clear hfz130_0
   try clear hfz130_1
   try clear hfz135_0
   try clear hfz135_1
   try clear hfz138_0
   try clear hfz138_1
   try clear hfz18_0
   try clear hfz18_1
   try clear hfz27_0
   try clear hfz27_1
   try clear hfz31_0
   try clear hfz31_1
   try clear hfz39_0
   try clear hfz39_1
   try clear hfz45_0
   try clear hfz45_1
   try clear hfz47_0
   try clear hfz47_1
   try clear hfz51_0
   try clear hfz51_1
   try clear hfz53_0
   try clear hfz53_1
   try clear hfz76_0
   try clear hfz76_1
   try clear hfz78_0
   try clear hfz78_1
   try clear hfz82_0
   try clear hfz82_1
   try clear hfz84_0
   try clear hfz84_1
   try clear hfz92_0
   try clear hfz92_1
   try clear hfz94_0
   try clear hfz94_1
   obtain ⟨kq, x113_100, rfl, HA, HJ100, HO_589001, HO_603001, HO_634001, BK574, BK588, BK602, BK633, HB⟩ := hcut
   have hl603001_100 := (Kd.R_reads' HO_603001.out).1
   rw [hl603001_100] at HO_603001
   (try simp only [hl603001_100])
   (try simp only [hl603001_100] at BK574)
   (try simp only [hl603001_100] at BK588)
   (try simp only [hl603001_100] at BK602)
   (try simp only [hl603001_100] at BK633)
   (try simp only [hl603001_100] at HO_589001)
   (try simp only [hl603001_100] at HO_634001)
   cases kq with
   | zero => exact absurd HA.out (by simp [laws_FnExactMatrixOfLinear.j2])
   | succ kj100 =>
    have H := HA.out
    clear HA
    simp only [laws_FnExactMatrixOfLinear.j2] at H
    by_cases c140 : x113_100 = true
    ·subst c140
     rw [if_pos rfl] at H
     obtain rfl := Option.some.inj H
     go_wp2
     go_ret
     exact ⟨tE, tB⟩
    replace c140 := Bool.eq_false_iff.mpr c140
    subst c140
    rw [if_neg (show ¬ (false = true) by decide)] at H
    obtain ⟨t635, A141, H⟩ := qBd H
    by_cases c142 : t635 < 0
    ·rw [if_pos c142] at H
     have c142b0 := decide_eq_true c142
     clear c142
     (try (have c142b0z := c142b0; simp only [hl603001_100] at c142b0z))
     obtain rfl := Option.some.inj H
     have hnb143 := NB602_574.out
     have hnc143 := NB574_602.out
     have hnb144 := NB602_588.out
     have hnc144 := NB588_602.out
     have hnb145 := NB602_633.out
     have hnc145 := NB633_602.out
     have hcz146_0 : wc.cell? ⟨gb602, 0, none⟩ = some (.int .i64 t597) := (kQC BK602.out 0).trans rfl
     have hcz146_1 : wc.cell? ⟨gb602, 1, none⟩ = some (.slice Ao40 t618.length co40) := (kQC BK602.out 1).trans rfl
     have hfz146_0 := kQF BK602.out 0
     have hfz146_1 := kQF BK602.out 1
     go_wp2_with (first | ((with_reducible refine gQc (f := 28) rfl ?_); refine goesL_ (some 116) rfl rfl Try.func28 (by kernel_rfl) rfl #[.agg #[.int .i64 t597, .slice Ao40 t618.length co40], .int .i64 1] rfl tL ?_; (with_reducible refine (laws_heldMatrix.calls kj100 t597 _ _ t618 1 t635 _ ?s1 ?s2 A141.out).mono ?_); (case s1 => exact tC ((Kd.R_reads' HO_603001.out).2.2)); (case s2 => exact (Kd.R_reads' HO_603001.out).2.1); rintro e w147 ⟨rfl, hb⟩; refine ⟨_, rfl, ?_⟩; refine qM8 (Kd.R_below (tR HO_589001.out) hb) (Kd.R_below (tR HO_603001.out) hb) (Kd.R_below (tR HO_634001.out) hb) (tQ BK574.out hb) (tQ BK588.out hb) (tQ BK602.out hb) (tQ BK633.out hb) (bQT tB hb) ?_; clear HO_589001 HO_603001 HO_634001 BK574 BK588 BK602 BK633 HB; intro HO_589001 HO_603001 HO_634001 BK574 BK588 BK602 BK633 HB; (try clear hb); (try clear hb2); (try clear hk); (try clear hi)))
     go_ret
     exact ⟨tE, tB⟩
    rw [if_neg c142] at H
    have c142b0 := decide_eq_false c142
    clear c142
    (try (have c142b0z := c142b0; simp only [hl603001_100] at c142b0z))
    by_cases c148 : t635 = t617
    ·rw [if_pos c148] at H
     have c148b0 := beq_iff_eq.mpr c148
     have c148b1 := bne_eq_false_iff_eq.mpr c148
     clear c148
     (try (have c148b0z := c148b0; simp only [hl603001_100] at c148b0z))
     (try (have c148b1z := c148b1; simp only [hl603001_100] at c148b1z))
     obtain rfl := Option.some.inj H
     have hnb149 := NB602_574.out
     have hnc149 := NB574_602.out
     have hnb150 := NB602_588.out
     have hnc150 := NB588_602.out
     have hnb151 := NB602_633.out
     have hnc151 := NB633_602.out
     have hcz152_0 : wc.cell? ⟨gb602, 0, none⟩ = some (.int .i64 t597) := (kQC BK602.out 0).trans rfl
     have hcz152_1 : wc.cell? ⟨gb602, 1, none⟩ = some (.slice Ao40 t618.length co40) := (kQC BK602.out 1).trans rfl
     have hfz152_0 := kQF BK602.out 0
     have hfz152_1 := kQF BK602.out 1
     go_wp2_with (first | ((with_reducible refine gQc (f := 28) rfl ?_); refine goesL_ (some 116) rfl rfl Try.func28 (by kernel_rfl) rfl #[.agg #[.int .i64 t597, .slice Ao40 t618.length co40], .int .i64 1] rfl tL ?_; (with_reducible refine (laws_heldMatrix.calls kj100 t597 _ _ t618 1 t635 _ ?s1 ?s2 A141.out).mono ?_); (case s1 => exact tC ((Kd.R_reads' HO_603001.out).2.2)); (case s2 => exact (Kd.R_reads' HO_603001.out).2.1); rintro e w153 ⟨rfl, hb⟩; refine ⟨_, rfl, ?_⟩; refine qM8 (Kd.R_below (tR HO_589001.out) hb) (Kd.R_below (tR HO_603001.out) hb) (Kd.R_below (tR HO_634001.out) hb) (tQ BK574.out hb) (tQ BK588.out hb) (tQ BK602.out hb) (tQ BK633.out hb) (bQT tB hb) ?_; clear HO_589001 HO_603001 HO_634001 BK574 BK588 BK602 BK633 HB; intro HO_589001 HO_603001 HO_634001 BK574 BK588 BK602 BK633 HB; (try clear hb); (try clear hb2); (try clear hk); (try clear hi)))
     go_ret
     exact ⟨tE, tB⟩
    rw [if_neg c148] at H
    have c148b0 := beq_eq_false_iff_ne.mpr c148
    have c148b1 := bne_iff_ne.mpr c148
    (try (have c148b0z := c148b0; simp only [hl603001_100] at c148b0z))
    (try (have c148b1z := c148b1; simp only [hl603001_100] at c148b1z))
    obtain rfl := Option.some.inj H
    have hnb154 := NB602_574.out
    have hnc154 := NB574_602.out
    have hnb155 := NB602_588.out
    have hnc155 := NB588_602.out
    have hnb156 := NB602_633.out
    have hnc156 := NB633_602.out
    have hcz157_0 : wc.cell? ⟨gb602, 0, none⟩ = some (.int .i64 t597) := (kQC BK602.out 0).trans rfl
    have hcz157_1 : wc.cell? ⟨gb602, 1, none⟩ = some (.slice Ao40 t618.length co40) := (kQC BK602.out 1).trans rfl
    have hfz157_0 := kQF BK602.out 0
    have hfz157_1 := kQF BK602.out 1
    go_wp2_with (first | ((with_reducible refine gQc (f := 28) rfl ?_); refine goesL_ (some 116) rfl rfl Try.func28 (by kernel_rfl) rfl #[.agg #[.int .i64 t597, .slice Ao40 t618.length co40], .int .i64 1] rfl tL ?_; (with_reducible refine (laws_heldMatrix.calls kj100 t597 _ _ t618 1 t635 _ ?s1 ?s2 A141.out).mono ?_); (case s1 => exact tC ((Kd.R_reads' HO_603001.out).2.2)); (case s2 => exact (Kd.R_reads' HO_603001.out).2.1); rintro e w158 ⟨rfl, hb⟩; refine ⟨_, rfl, ?_⟩; refine qM8 (Kd.R_below (tR HO_589001.out) hb) (Kd.R_below (tR HO_603001.out) hb) (Kd.R_below (tR HO_634001.out) hb) (tQ BK574.out hb) (tQ BK588.out hb) (tQ BK602.out hb) (tQ BK633.out hb) (bQT tB hb) ?_; clear HO_589001 HO_603001 HO_634001 BK574 BK588 BK602 BK633 HB; intro HO_589001 HO_603001 HO_634001 BK574 BK588 BK602 BK633 HB; (try clear hb); (try clear hb2); (try clear hk); (try clear hi)))
    go_ret
    exact ⟨tE, tB⟩
end Go.Proofs.Ytbgbblgdbcjibaa.P
