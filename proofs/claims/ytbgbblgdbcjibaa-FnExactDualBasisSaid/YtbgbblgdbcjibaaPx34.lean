/- Functions of the program and what they tell, as the printing program wrote it. -/
import Derived.Test.YtbgbblgdbcjibaaPx0
import Derived.Test.YtbgbblgdbcjibaaPx1
import Derived.Test.YtbgbblgdbcjibaaPx5
import Derived.Test.YtbgbblgdbcjibaaPx7
import Derived.Test.YtbgbblgdbcjibaaPx8
import Derived.Test.YtbgbblgdbcjibaaPx21
import Derived.Test.YtbgbblgdbcjibaaPx23
namespace Go.Proofs.Ytbgbblgdbcjibaa.P
open Go.Shelf Go.RowKit Go.Proofs.YtbgbblgdbcjibaaW.PrintWords Go.Proofs.YtbgbblgdbcjibaaW.PrintLast Go.Proofs.YtbgbblgdbcjibaaW.PrintMore
attribute [local go_sem] max2_int min2_int max_two min_two max_three min_three max_four min_four
set_option linter.unusedVariables false
set_option linter.unusedSimpArgs false
set_option maxHeartbeats 8000000
set_option maxRecDepth 100000
mutual
def laws_FnExactDualBasis.j0 : Nat → List Int → List Int → Int → List Int → List Int → Int → Bool → Int → Int → Option (Bool)
  | 0, _, _, _, _, _, _, _, _, _ => none
  | k + 1, x1, x5, x6, x7, x8, x9, x43, x374000, x374001 => if x43 = true then (some false) else ((laws_toInt64S.f k x1).bind fun t393 => ((laws_eqInt64S.f k x7 t393).bind fun t396 => (if t396 = true then ((laws_markInt64S.f k x7 1).bind fun bt397 => (if bt397.1 < 0 then (laws_FnExactDualBasis.j1 k x1 x5 x6 x8 true x374000 x374001) else ((laws_eqInt64S.f k x8 x5).bind fun t399 => (if t399 = true then (laws_FnExactDualBasis.j1 k x1 x5 x6 x8 (x9 != x6) x374000 x374001) else (laws_FnExactDualBasis.j1 k x1 x5 x6 x8 true x374000 x374001))))) else (some false))))
def laws_FnExactDualBasis.j1 : Nat → List Int → List Int → Int → List Int → Bool → Int → Int → Option (Bool)
  | 0, _, _, _, _, _, _, _ => none
  | k + 1, x1, x5, x6, x8, x64, x374000, x374001 => if x64 = true then (some false) else ((laws_markInt64S.f k x8 1).bind fun bt400 => ((laws_heldInt64S.f k bt400.2 1).bind fun t402 => (if t402 < 0 then (some false) else (if t402 = bt400.1 then ((laws_toField.f x374000 x374001).bind fun bt403 => ((laws_toInt64S.f k x1).bind fun t405 => ((impl_DualBasis.f k bt403.1 bt403.2 t405).bind fun bt408 => ((laws_eqInt64S.f k bt408.1 x5).bind fun t412 => (if t412 = true then (laws_FnExactDualBasis.j2 k bt400.2 bt400.1 (bt408.2 != x6)) else (laws_FnExactDualBasis.j2 k bt400.2 bt400.1 true)))))) else (some false)))))
def laws_FnExactDualBasis.j2 : Nat → List Int → Int → Bool → Option (Bool)
  | 0, _, _, _ => none
  | k + 1, x8, x11, x92 => if x92 = true then (some false) else ((laws_heldInt64S.f k x8 1).bind fun t413 => (if t413 < 0 then (some false) else (if t413 = x11 then (some true) else (some false))))
end
def laws_FnExactDualBasis.f (k : Nat) (a0_0 : Int) (a0_1 : Int) (l1 : List Int) : Option (Bool) := if (l1.length : Int) > 1048576 then (some true) else ((laws_toField.f a0_0 a0_1).bind fun bt374 => ((laws_toInt64S.f k l1).bind fun t376 => ((spec_DualBasis.f k bt374.1 bt374.2 t376).bind fun bt379 => ((laws_toInt64S.f k l1).bind fun t383 => ((laws_toField.f a0_0 a0_1).bind fun bt386 => ((impl_DualBasis.f k bt386.1 bt386.2 t383).bind fun bt388 => ((laws_eqInt64S.f k bt388.1 bt379.1).bind fun t392 => (if t392 = true then (laws_FnExactDualBasis.j0 k l1 bt379.1 bt379.2 t383 bt388.1 bt388.2 (bt388.2 != bt379.2) a0_0 a0_1) else (laws_FnExactDualBasis.j0 k l1 bt379.1 bt379.2 t383 bt388.1 bt388.2 true a0_0 a0_1)))))))))
theorem laws_FnExactDualBasis.mono_l : ∀ k, (∀ y0 y1 y2 y3 y4 y5 y6 y7 y8, LeO (laws_FnExactDualBasis.j0 k y0 y1 y2 y3 y4 y5 y6 y7 y8) (laws_FnExactDualBasis.j0 (k + 1) y0 y1 y2 y3 y4 y5 y6 y7 y8)) ∧ (∀ y0 y1 y2 y3 y4 y5 y6, LeO (laws_FnExactDualBasis.j1 k y0 y1 y2 y3 y4 y5 y6) (laws_FnExactDualBasis.j1 (k + 1) y0 y1 y2 y3 y4 y5 y6)) ∧ (∀ y0 y1 y2, LeO (laws_FnExactDualBasis.j2 k y0 y1 y2) (laws_FnExactDualBasis.j2 (k + 1) y0 y1 y2))
 | 0 => ⟨fun _ _ _ _ _ _ _ _ _ r h => by simp [laws_FnExactDualBasis.j0] at h, fun _ _ _ _ _ _ _ r h => by simp [laws_FnExactDualBasis.j1] at h, fun _ _ _ r h => by simp [laws_FnExactDualBasis.j2] at h⟩
 | k + 1 => by
  obtain ⟨ih0, ih1, ih2⟩ := laws_FnExactDualBasis.mono_l k
  refine ⟨?_, ?_, ?_⟩ <;> intros <;> first | unfold laws_FnExactDualBasis.j0 | unfold laws_FnExactDualBasis.j1 | unfold laws_FnExactDualBasis.j2
  all_goals repeat' first
   | (with_reducible first | apply ih0 | apply ih1 | apply ih2 | apply impl_DualBasis.mono | apply laws_eqInt64S.mono | apply laws_heldInt64S.mono | apply laws_markInt64S.mono | apply laws_toInt64S.mono | apply spec_DualBasis.mono | exact LeO.refl _ | exact LeO.none _ | refine LeO.ite ?_ ?_ | refine LeO.bind ?_ (fun _ => ?_))
   | exact LeO.none _
   | refine LeO.ite ?_ ?_
   | refine LeO.bind ?_ (fun _ => ?_)
theorem laws_FnExactDualBasis.mono : ∀ a0 a1 a2 k, LeO (laws_FnExactDualBasis.f k a0 a1 a2) (laws_FnExactDualBasis.f (k + 1) a0 a1 a2) := by
 intro a0 a1 a2 k
 obtain ⟨ih0, ih1, ih2⟩ := laws_FnExactDualBasis.mono_l k
 unfold laws_FnExactDualBasis.f
 repeat' first
  | (with_reducible first | apply ih0 | apply ih1 | apply ih2 | apply impl_DualBasis.mono | apply laws_eqInt64S.mono | apply laws_heldInt64S.mono | apply laws_markInt64S.mono | apply laws_toInt64S.mono | apply spec_DualBasis.mono | exact LeO.refl _ | exact LeO.none _ | refine LeO.ite ?_ ?_ | refine LeO.bind ?_ (fun _ => ?_))
  | exact LeO.none _
  | refine LeO.ite ?_ ?_
  | refine LeO.bind ?_ (fun _ => ?_)
theorem laws_FnExactDualBasis.calls (k : Nat) (a0_0 : Int) (a0_1 : Int) (A1 : Option Addr) (c1 : Nat) (l1 : List Int) (r : Bool) (w : World) (hr1 : Kd.C (Kd.int .i64) w A1 l1.length l1) (hc1 : l1.length ≤ c1) (h : laws_FnExactDualBasis.f k a0_0 a0_1 l1 = some r) :
 Calls Try.prog 6 #[.agg #[.int .i64 a0_0, .int .i64 a0_1], .slice A1 l1.length c1] w fun e w' => e = .returned (.bool r) ∧ Below w.heap.size w w' := by
 have hu23 := Try.underlying23
 have HR1 := Aq.mk hr1
 have HC1 := Aq.mk hc1
 clear hr1 hc1
 have HB := Aq.mk (Below.refl w.heap.size w)
 have H : (if (l1.length : Int) > 1048576 then (some true) else ((laws_toField.f a0_0 a0_1).bind fun bt374 => ((laws_toInt64S.f k l1).bind fun t376 => ((spec_DualBasis.f k bt374.1 bt374.2 t376).bind fun bt379 => ((laws_toInt64S.f k l1).bind fun t383 => ((laws_toField.f a0_0 a0_1).bind fun bt386 => ((impl_DualBasis.f k bt386.1 bt386.2 t383).bind fun bt388 => ((laws_eqInt64S.f k bt388.1 bt379.1).bind fun t392 => (if t392 = true then (laws_FnExactDualBasis.j0 k l1 bt379.1 bt379.2 t383 bt388.1 bt388.2 (bt388.2 != bt379.2) a0_0 a0_1) else (laws_FnExactDualBasis.j0 k l1 bt379.1 bt379.2 t383 bt388.1 bt388.2 true a0_0 a0_1)))))))))) = some r := h
 clear h
 by_cases c3 : (l1.length : Int) > 1048576
 ·rw [if_pos c3] at H
  have c3b0 := decide_eq_true c3
  have c3b1 : decide (1048576 < l1.length) = true := decide_eq_true (by omega)
  clear c3
  obtain rfl := Option.some.inj H
  go_enter Try.func6, Try.ntmps6
  go_wp2_with (first | ((with_reducible refine gQd (N := 2) rfl ?_); refine xQe ?hg (N := 2) ?hd (cs := #[.int .i64 a0_0, .int .i64 a0_1]) (t := 23) ?hr ?_; (case hd => rfl); (case hg => rfl); (case hr => exact tH); intro gb373 hg w4 hbox hb; refine qM4 (bQT tB hb) hbox (tZ w hg) (tZ w hg) ?_; clear HB; intro HB BK373 GW373 GE373; clear hb hbox hg))
  go_ret
  exact ⟨tE, tB⟩
 rw [if_neg c3] at H
 have c3b0 := decide_eq_false c3
 have c3b1 : decide (1048576 < l1.length) = false := decide_eq_false (by omega)
 clear c3
 obtain ⟨⟨t374, t375⟩, A5, H⟩ := qBd H
 (try dsimp only at H)
 obtain ⟨t376, A6, H⟩ := qBd H
 obtain ⟨⟨t379, t382⟩, A7, H⟩ := qBd H
 (try dsimp only at H)
 obtain ⟨t383, A8, H⟩ := qBd H
 obtain ⟨⟨t386, t387⟩, A9, H⟩ := qBd H
 (try dsimp only at H)
 obtain ⟨⟨t388, t391⟩, A10, H⟩ := qBd H
 (try dsimp only at H)
 have HC11 := Aq.mk H
 clear H
 go_enter Try.func6, Try.ntmps6
 go_upto_region 6 with (first | ((with_reducible refine gQd (N := 2) rfl ?_); refine xQe ?hg (N := 2) ?hd (cs := #[.int .i64 a0_0, .int .i64 a0_1]) (t := 23) ?hr ?_; (case hd => rfl); (case hg => rfl); (case hr => exact tH); intro gb373 hg w12 hbox hb; refine qM4 (bQT tB hb) hbox (tZ w hg) (tZ w hg) ?_; clear HB; intro HB BK373 GW373 GE373; clear hb hbox hg; have hcz13_0 : w12.cell? ⟨gb373, 0, none⟩ = some (.int .i64 a0_0) := (kQC BK373.out 0).trans rfl; have hcz13_1 : w12.cell? ⟨gb373, 1, none⟩ = some (.int .i64 a0_1) := (kQC BK373.out 1).trans rfl; have hfz13_0 := kQF BK373.out 0; have hfz13_1 := kQF BK373.out 1) | ((with_reducible refine gQc (f := 10) rfl ?_); refine goesL_ (some 20) rfl rfl Try.func10 (by kernel_rfl) rfl #[.agg #[.int .i64 a0_0, .int .i64 a0_1]] rfl tL ?_; (with_reducible refine (laws_toField.calls a0_0 a0_1 t374 t375 _ A5.out).mono ?_); rintro e w14 ⟨rfl, hb⟩; refine ⟨_, rfl, ?_⟩; refine qM2 (tQ BK373.out hb) (bQT tB hb) ?_; clear BK373 HB; intro BK373 HB; (try clear hb); (try clear hb2); (try clear hk); (try clear hi)) | ((with_reducible refine gQc (f := 18) rfl ?_); refine goesL_ (some 22) rfl rfl Try.func18 (by kernel_rfl) rfl #[.slice A1 l1.length c1] rfl tL ?_; (with_reducible refine (laws_toInt64S.calls k _ _ l1 t376 _ ?s1 ?s2 A6.out).mono ?_); (case s1 => exact tC ((Kd.C_below HR1.out HB.out))); (case s2 => exact HC1.out); rintro e w15 ⟨v377, rfl, ho0, hb⟩; refine ⟨_, rfl, ?_⟩; refine qM3 (Kd.R_lower ho0 (bQZ tB)) (tQ BK373.out hb) (bQT tB hb) ?_; clear BK373 HB; intro HO378 BK373 HB; (try clear hb); (try clear hb2); (try clear hk); (try clear hi); (try clear ho0); obtain ⟨Ao16, co16, eo16⟩ := Kd.R_slice HO378.out; subst eo16) | ((with_reducible refine gQc (f := 20) rfl ?_); refine goesL_ (some 23) rfl rfl Try.func20 (by kernel_rfl) rfl #[.agg #[.int .i64 t374, .int .i64 t375], .slice Ao16 t376.length co16] rfl tL ?_; (with_reducible refine (spec_DualBasis.calls k t374 t375 _ _ t376 t379 t382 _ ?s1 ?s2 A7.out).mono ?_); (case s1 => exact tC ((Kd.R_reads' HO378.out).2.2)); (case s2 => exact (Kd.R_reads' HO378.out).2.1); rintro e w17 ⟨v380, rfl, ho0, hb⟩; refine ⟨_, rfl, ?_⟩; refine qM4 (Kd.R_elder' (tR HO378.out) (Kd.R_base ho0) hb) (Kd.R_lower (Kd.R_new' ho0 (Kd.R_lt (tR HO378.out))) (bQZ tB)) (tQ BK373.out hb) (bQT tB hb) ?_; clear HO378 BK373 HB; intro HO378 HO381 BK373 HB; (try clear hb); (try clear hb2); (try clear hk); (try clear hi); (try clear ho0)) | ((with_reducible refine gQc (f := 18) rfl ?_); refine goesL_ (some 27) rfl rfl Try.func18 (by kernel_rfl) rfl #[.slice A1 l1.length c1] rfl tL ?_; (with_reducible refine (laws_toInt64S.calls k _ _ l1 t383 _ ?s1 ?s2 A8.out).mono ?_); (case s1 => exact tC ((Kd.C_below HR1.out HB.out))); (case s2 => exact HC1.out); rintro e w18 ⟨v384, rfl, ho0, hb⟩; refine ⟨_, rfl, ?_⟩; refine qM5 (Kd.R_elder' (tR HO378.out) (Kd.R_base ho0) hb) (Kd.R_elder' (tR HO381.out) (Kd.R_base ho0) hb) (Kd.R_lower (Kd.R_new' (Kd.R_new' ho0 (Kd.R_lt (tR HO378.out))) (Kd.R_lt (tR HO381.out))) (bQZ tB)) (tQ BK373.out hb) (bQT tB hb) ?_; clear HO378 HO381 BK373 HB; intro HO378 HO381 HO385 BK373 HB; (try clear hb); (try clear hb2); (try clear hk); (try clear hi); (try clear ho0); have hcz19_0 : w18.cell? ⟨gb373, 0, none⟩ = some (.int .i64 a0_0) := (kQC BK373.out 0).trans rfl; have hcz19_1 : w18.cell? ⟨gb373, 1, none⟩ = some (.int .i64 a0_1) := (kQC BK373.out 1).trans rfl; have hfz19_0 := kQF BK373.out 0; have hfz19_1 := kQF BK373.out 1) | ((with_reducible refine gQc (f := 10) rfl ?_); refine goesL_ (some 30) rfl rfl Try.func10 (by kernel_rfl) rfl #[.agg #[.int .i64 a0_0, .int .i64 a0_1]] rfl tL ?_; (with_reducible refine (laws_toField.calls a0_0 a0_1 t386 t387 _ A9.out).mono ?_); rintro e w20 ⟨rfl, hb⟩; refine ⟨_, rfl, ?_⟩; refine qM5 (Kd.R_below (tR HO378.out) hb) (Kd.R_below (tR HO381.out) hb) (Kd.R_below (tR HO385.out) hb) (tQ BK373.out hb) (bQT tB hb) ?_; clear HO378 HO381 HO385 BK373 HB; intro HO378 HO381 HO385 BK373 HB; (try clear hb); (try clear hb2); (try clear hk); (try clear hi); obtain ⟨Ao21, co21, eo21⟩ := Kd.R_slice HO385.out; subst eo21) | ((with_reducible refine gQc (f := 21) rfl ?_); refine goesL_ (some 32) rfl rfl Try.func21 (by kernel_rfl) rfl #[.agg #[.int .i64 t386, .int .i64 t387], .slice Ao21 t383.length co21] rfl tL ?_; (with_reducible refine (impl_DualBasis.calls k t386 t387 _ _ t383 t388 t391 _ ?s1 ?s2 A10.out).mono ?_); (case s1 => exact tC ((Kd.R_reads' HO385.out).2.2)); (case s2 => exact (Kd.R_reads' HO385.out).2.1); rintro e w22 ⟨v389, rfl, ho0, hb⟩; refine ⟨_, rfl, ?_⟩; refine qM6 (Kd.R_elder' (tR HO378.out) (Kd.R_base ho0) hb) (Kd.R_elder' (tR HO381.out) (Kd.R_base ho0) hb) (Kd.R_elder' (tR HO385.out) (Kd.R_base ho0) hb) (Kd.R_lower (Kd.R_new' (Kd.R_new' (Kd.R_new' ho0 (Kd.R_lt (tR HO378.out))) (Kd.R_lt (tR HO381.out))) (Kd.R_lt (tR HO385.out))) (bQZ tB)) (tQ BK373.out hb) (bQT tB hb) ?_; clear HO378 HO381 HO385 BK373 HB; intro HO378 HO381 HO385 HO390 BK373 HB; (try clear hb); (try clear hb2); (try clear hk); (try clear hi); (try clear ho0)))
 (try simp only [Act.put, qSa, qSb, qSc])
 go_cut [43] (fun v43 wc => ∃ (kq : Nat) (x43_10 : Bool), v43 = .bool x43_10 ∧ Aq (laws_FnExactDualBasis.j0 kq l1 t379 t382 t383 t388 t391 x43_10 a0_0 a0_1 = some r) ∧ Aq (kq ≤ k) ∧ Aq (Kd.R (Kd.int .i64) 2 wc w.heap.size (fun k_ => some k_ ≠ ((.slice Ao21 t383.length co21) : Value).ownBlock ∧ some k_ ≠ (v389 : Value).ownBlock) v380 t379) ∧ Aq (Kd.R (Kd.int .i64) 2 wc w.heap.size (fun k_ => some k_ ≠ (v380 : Value).ownBlock ∧ some k_ ≠ (v389 : Value).ownBlock) (.slice Ao21 t383.length co21) t383) ∧ Aq (Kd.R (Kd.int .i64) 2 wc w.heap.size (fun k_ => some k_ ≠ (v380 : Value).ownBlock ∧ some k_ ≠ ((.slice Ao21 t383.length co21) : Value).ownBlock) v389 t388) ∧ Aq (wc.heap[gb373]? = some (.cells #[.int .i64 a0_0, .int .i64 a0_1] 23 (0, 0))) ∧ Aq (Below w.heap.size w wc))
 case first =>
  have H := HC11.out
  clear HC11
  obtain ⟨t392, A23, H⟩ := qBd H
  by_cases c24 : t392 = true
  ·subst c24
   rw [if_pos rfl] at H
   replace H' := Aq.mk H
   clear H
   obtain ⟨Ao25, co25, eo25⟩ := Kd.R_slice HO390.out
   subst eo25
   obtain ⟨Ao26, co26, eo26⟩ := Kd.R_slice HO381.out
   subst eo26
   go_wp2_with (first | ((with_reducible refine gQc (f := 14) rfl ?_); refine goesL_ (some 37) rfl rfl Try.func14 (by kernel_rfl) rfl #[.slice Ao25 t388.length co25, .slice Ao26 t379.length co26] rfl tL ?_; (with_reducible refine (laws_eqInt64S.calls k _ _ t388 _ _ t379 true _ ?s1 ?s2 ?s3 ?s4 A23.out).mono ?_); (case s1 => exact tC ((Kd.R_reads' HO390.out).2.2)); (case s2 => exact (Kd.R_reads' HO390.out).2.1); (case s3 => exact tC ((Kd.R_reads' HO381.out).2.2)); (case s4 => exact (Kd.R_reads' HO381.out).2.1); rintro e w' ⟨rfl, ⟨nd, rfl⟩⟩; refine ⟨_, rfl, ?_⟩))
   go_meet
   case rel => exact ⟨_, ((t391 != t382)), tS, H', ⟨tO⟩, ⟨by (with_reducible repeat (first | apply Kd.RqA | apply Kd.RqN | apply Kd.RqD)); exact Kd.R_mono HO381.out (fun _ hk => ⟨hk.1.2, hk.2⟩)⟩, ⟨by (with_reducible repeat (first | apply Kd.RqA | apply Kd.RqN | apply Kd.RqD)); exact Kd.R_mono HO385.out (fun _ hk => ⟨hk.1.2, hk.2⟩)⟩, ⟨by (with_reducible repeat (first | apply Kd.RqA | apply Kd.RqN | apply Kd.RqD)); exact Kd.R_mono HO390.out (fun _ hk => ⟨hk.1.2, hk.2⟩)⟩, ⟨tG BK373.out⟩, ⟨tB⟩⟩
  replace c24 := Bool.eq_false_iff.mpr c24
  subst c24
  rw [if_neg (show ¬ (false = true) by decide)] at H
  replace H' := Aq.mk H
  clear H
  obtain ⟨Ao27, co27, eo27⟩ := Kd.R_slice HO390.out
  subst eo27
  obtain ⟨Ao28, co28, eo28⟩ := Kd.R_slice HO381.out
  subst eo28
  go_wp2_with (first | ((with_reducible refine gQc (f := 14) rfl ?_); refine goesL_ (some 37) rfl rfl Try.func14 (by kernel_rfl) rfl #[.slice Ao27 t388.length co27, .slice Ao28 t379.length co28] rfl tL ?_; (with_reducible refine (laws_eqInt64S.calls k _ _ t388 _ _ t379 false _ ?s1 ?s2 ?s3 ?s4 A23.out).mono ?_); (case s1 => exact tC ((Kd.R_reads' HO390.out).2.2)); (case s2 => exact (Kd.R_reads' HO390.out).2.1); (case s3 => exact tC ((Kd.R_reads' HO381.out).2.2)); (case s4 => exact (Kd.R_reads' HO381.out).2.1); rintro e w' ⟨rfl, ⟨nd, rfl⟩⟩; refine ⟨_, rfl, ?_⟩))
  go_meet
  case rel => exact ⟨_, (true), tS, H', ⟨tO⟩, ⟨by (with_reducible repeat (first | apply Kd.RqA | apply Kd.RqN | apply Kd.RqD)); exact Kd.R_mono HO381.out (fun _ hk => ⟨hk.1.2, hk.2⟩)⟩, ⟨by (with_reducible repeat (first | apply Kd.RqA | apply Kd.RqN | apply Kd.RqD)); exact Kd.R_mono HO385.out (fun _ hk => ⟨hk.1.2, hk.2⟩)⟩, ⟨by (with_reducible repeat (first | apply Kd.RqA | apply Kd.RqN | apply Kd.RqD)); exact Kd.R_mono HO390.out (fun _ hk => ⟨hk.1.2, hk.2⟩)⟩, ⟨tG BK373.out⟩, ⟨tB⟩⟩
 clear HC11
 try clear c1
 try clear c3
 try clear c3b0
 try clear c3b1
 try clear c24
 try clear hcz13_0
 try clear hcz13_1
 try clear hcz19_0
 try clear hcz19_1
 try clear hfz13_0
 try clear hfz13_1
 try clear hfz19_0
 try clear hfz19_1
 obtain ⟨kq, x43_10, rfl, HA, HJ10, HO_5, HO_7, HO_8, BK373, HB⟩ := hcut
 cases kq with
 | zero => exact absurd HA.out (by simp [laws_FnExactDualBasis.j0])
 | succ kj10 =>
  have H := HA.out
  clear HA
  simp only [laws_FnExactDualBasis.j0] at H
  by_cases c29 : x43_10 = true
  ·subst c29
   rw [if_pos rfl] at H
   obtain rfl := Option.some.inj H
   go_wp2
   go_ret
   exact ⟨tE, tB⟩
  replace c29 := Bool.eq_false_iff.mpr c29
  subst c29
  rw [if_neg (show ¬ (false = true) by decide)] at H
  obtain ⟨t393, A30, H⟩ := qBd H
  obtain ⟨t396, A31, H⟩ := qBd H
  by_cases c32 : t396 = true
  rotate_left
  ·replace c32 := Bool.eq_false_iff.mpr c32
   subst c32
   rw [if_neg (show ¬ (false = true) by decide)] at H
   obtain rfl := Option.some.inj H
   go_wp2_with (first | ((with_reducible refine gQc (f := 18) rfl ?_); refine goesL_ (some 46) rfl rfl Try.func18 (by kernel_rfl) rfl #[.slice A1 l1.length c1] rfl tL ?_; (with_reducible refine (laws_toInt64S.calls kj10 _ _ l1 t393 _ ?s1 ?s2 A30.out).mono ?_); (case s1 => exact tC ((Kd.C_below HR1.out HB.out))); (case s2 => exact HC1.out); rintro e w75 ⟨v394, rfl, ho0, hb⟩; refine ⟨_, rfl, ?_⟩; refine qM6 (Kd.R_elder' (tR HO_5.out) (Kd.R_base ho0) hb) (Kd.R_elder' (tR HO_7.out) (Kd.R_base ho0) hb) (Kd.R_elder' (tR HO_8.out) (Kd.R_base ho0) hb) (Kd.R_lower (Kd.R_new' (Kd.R_new' (Kd.R_new' ho0 (Kd.R_lt (tR HO_5.out))) (Kd.R_lt (tR HO_7.out))) (Kd.R_lt (tR HO_8.out))) (bQZ tB)) (tQ BK373.out hb) (bQT tB hb) ?_; clear HO_5 HO_7 HO_8 BK373 HB; intro HO_5 HO_7 HO_8 HO395 BK373 HB; (try clear hb); (try clear hb2); (try clear hk); (try clear hi); (try clear ho0); obtain ⟨Ao76, co76, eo76⟩ := Kd.R_slice HO395.out; subst eo76) | ((with_reducible refine gQc (f := 14) rfl ?_); refine goesL_ (some 47) rfl rfl Try.func14 (by kernel_rfl) rfl #[.slice Ao21 t383.length co21, .slice Ao76 t393.length co76] rfl tL ?_; (with_reducible refine (laws_eqInt64S.calls kj10 _ _ t383 _ _ t393 false _ ?s1 ?s2 ?s3 ?s4 A31.out).mono ?_); (case s1 => exact tC ((Kd.R_reads' HO_7.out).2.2)); (case s2 => exact (Kd.R_reads' HO_7.out).2.1); (case s3 => exact tC ((Kd.R_reads' HO395.out).2.2)); (case s4 => exact (Kd.R_reads' HO395.out).2.1); rintro e w' ⟨rfl, ⟨nd, rfl⟩⟩; refine ⟨_, rfl, ?_⟩))
   go_ret
   exact ⟨tE, tB⟩
  subst c32
  rw [if_pos rfl] at H
  obtain ⟨⟨t397, t398⟩, A33, H⟩ := qBd H
  (try dsimp only at H)
  have HC34 := Aq.mk H
  clear H
  go_upto_region 12 with (first | ((with_reducible refine gQc (f := 18) rfl ?_); refine goesL_ (some 46) rfl rfl Try.func18 (by kernel_rfl) rfl #[.slice A1 l1.length c1] rfl tL ?_; (with_reducible refine (laws_toInt64S.calls kj10 _ _ l1 t393 _ ?s1 ?s2 A30.out).mono ?_); (case s1 => exact tC ((Kd.C_below HR1.out HB.out))); (case s2 => exact HC1.out); rintro e w35 ⟨v394, rfl, ho0, hb⟩; refine ⟨_, rfl, ?_⟩; refine qM6 (Kd.R_elder' (tR HO_5.out) (Kd.R_base ho0) hb) (Kd.R_elder' (tR HO_7.out) (Kd.R_base ho0) hb) (Kd.R_elder' (tR HO_8.out) (Kd.R_base ho0) hb) (Kd.R_lower (Kd.R_new' (Kd.R_new' (Kd.R_new' ho0 (Kd.R_lt (tR HO_5.out))) (Kd.R_lt (tR HO_7.out))) (Kd.R_lt (tR HO_8.out))) (bQZ tB)) (tQ BK373.out hb) (bQT tB hb) ?_; clear HO_5 HO_7 HO_8 BK373 HB; intro HO_5 HO_7 HO_8 HO395 BK373 HB; (try clear hb); (try clear hb2); (try clear hk); (try clear hi); (try clear ho0); obtain ⟨Ao36, co36, eo36⟩ := Kd.R_slice HO395.out; subst eo36) | ((with_reducible refine gQc (f := 14) rfl ?_); refine goesL_ (some 47) rfl rfl Try.func14 (by kernel_rfl) rfl #[.slice Ao21 t383.length co21, .slice Ao36 t393.length co36] rfl tL ?_; (with_reducible refine (laws_eqInt64S.calls kj10 _ _ t383 _ _ t393 true _ ?s1 ?s2 ?s3 ?s4 A31.out).mono ?_); (case s1 => exact tC ((Kd.R_reads' HO_7.out).2.2)); (case s2 => exact (Kd.R_reads' HO_7.out).2.1); (case s3 => exact tC ((Kd.R_reads' HO395.out).2.2)); (case s4 => exact (Kd.R_reads' HO395.out).2.1); rintro e w' ⟨rfl, ⟨nd, rfl⟩⟩; refine ⟨_, rfl, ?_⟩) | ((with_reducible refine gQc (f := 15) rfl ?_); refine goesL_ (some 51) rfl rfl Try.func15 (by kernel_rfl) rfl #[.slice Ao21 t383.length co21, .int .i64 1] rfl tL ?_; (with_reducible refine (laws_markInt64S.calls kj10 (fun k_ => some k_ = (.slice Ao21 t383.length co21 : Value).ownBlock) (.slice Ao21 t383.length co21) t383 1 t397 t398 w _ ?s1 ?s2 A33.out).mono ?_); (case s1 => exact tB); (case s2 => exact Kd.R_tight rfl HO_7.out); rintro e w37 ⟨rfl, hy0, hb, hkp⟩; refine ⟨_, rfl, ?_⟩; refine qM6 (Kd.R_mono (ok' := fun k_ => some k_ ≠ (.slice Ao21 t383.length co21 : Value).ownBlock ∧ some k_ ≠ (v389 : Value).ownBlock ∧ some k_ ≠ (.slice Ao36 t393.length co36 : Value).ownBlock) (Kd.R_keptB (HO_5.out) hkp (fun k_ hk_ hs_ => (hk_.1.1) hs_)) (fun k_ hk_ => ⟨hk_.1.1.1, hk_.1.1.2, hk_.1.2⟩)) (Kd.R_reok rfl hy0 (fun k_ e_ => HO_7.out.1 k_ e_)) (Kd.R_mono (ok' := fun k_ => some k_ ≠ (v380 : Value).ownBlock ∧ some k_ ≠ (.slice Ao21 t383.length co21 : Value).ownBlock ∧ some k_ ≠ (.slice Ao36 t393.length co36 : Value).ownBlock) (Kd.R_keptB (HO_8.out) hkp (fun k_ hk_ hs_ => (hk_.1.2) hs_)) (fun k_ hk_ => ⟨hk_.1.1.1, hk_.1.1.2, hk_.1.2⟩)) (blk_kept (tG BK373.out) hkp (fun hs_ => (fun e_ => (Kd.R_ne HO_7.out BK373.out (by decide)) e_) hs_)) (Kd.R_mono (ok' := fun k_ => some k_ ≠ (v380 : Value).ownBlock ∧ some k_ ≠ (.slice Ao21 t383.length co21 : Value).ownBlock ∧ some k_ ≠ (v389 : Value).ownBlock) (Kd.R_keptB (HO395.out) hkp (fun k_ hk_ hs_ => (hk_.1.2) hs_)) (fun k_ hk_ => ⟨hk_.1.1.1.2, hk_.1.1.2, hk_.1.2⟩)) hb ?_; clear HO_5 HO_7 HO_8 BK373 HO395 HB; intro HO_5 HO_7 HO_8 BK373 HO395 HB; (try clear hb); (try clear hkp); (try clear hy0)))
  (try simp only [Act.put, qSa, qSb, qSc])
  go_cut [64] (fun v64 wc => ∃ (kq : Nat) (x64_33 : Bool), v64 = .bool x64_33 ∧ Aq (laws_FnExactDualBasis.j1 kq l1 t379 t382 t388 x64_33 a0_0 a0_1 = some r) ∧ Aq (kq ≤ kj10) ∧ Aq (Kd.R (Kd.int .i64) 2 wc w.heap.size (fun k_ => some k_ ≠ (v389 : Value).ownBlock) v380 t379) ∧ Aq (Kd.R (Kd.int .i64) 2 wc w.heap.size (fun k_ => some k_ ≠ (v380 : Value).ownBlock) v389 t388) ∧ Aq (wc.heap[gb373]? = some (.cells #[.int .i64 a0_0, .int .i64 a0_1] 23 (0, 0))) ∧ Aq (Below w.heap.size w wc))
  case first =>
   have H := HC34.out
   clear HC34
   by_cases c38 : t397 < 0
   ·rw [if_pos c38] at H
    have c38b0 := decide_eq_true c38
    clear c38
    (first | rw [c38b0] | (simp only [i64_w, i32_w]; rw [c38b0]) | skip)
    replace H' := Aq.mk H
    clear H
    go_wp2
    go_meet
    case rel => exact ⟨_, (true), tS, H', ⟨by have := HJ10.out; first | omega | exact Nat.le_refl _⟩, ⟨by (with_reducible repeat (first | apply Kd.RqA | apply Kd.RqN | apply Kd.RqD)); exact Kd.R_mono HO_5.out (fun _ hk => hk.2.1)⟩, ⟨by (with_reducible repeat (first | apply Kd.RqA | apply Kd.RqN | apply Kd.RqD)); exact Kd.R_mono HO_8.out (fun _ hk => hk.1)⟩, ⟨tG BK373.out⟩, ⟨tB⟩⟩
   rw [if_neg c38] at H
   have c38b0 := decide_eq_false c38
   clear c38
   (first | rw [c38b0] | (simp only [i64_w, i32_w]; rw [c38b0]) | skip)
   obtain ⟨t399, A39, H⟩ := qBd H
   by_cases c40 : t399 = true
   ·subst c40
    rw [if_pos rfl] at H
    replace H' := Aq.mk H
    clear H
    obtain ⟨Ao41, co41, eo41⟩ := Kd.R_slice HO_8.out
    subst eo41
    obtain ⟨Ao42, co42, eo42⟩ := Kd.R_slice HO_5.out
    subst eo42
    go_wp2_with (first | (go_at_call 14; (with_reducible refine (laws_eqInt64S.calls kj10 _ _ t388 _ _ t379 true _ ?s1 ?s2 ?s3 ?s4 A39.out).mono ?_); (case s1 => exact tC ((Kd.R_reads' HO_8.out).2.2)); (case s2 => exact (Kd.R_reads' HO_8.out).2.1); (case s3 => exact tC ((Kd.R_reads' HO_5.out).2.2)); (case s4 => exact (Kd.R_reads' HO_5.out).2.1); rintro e w' ⟨rfl, ⟨nd, rfl⟩⟩))
    go_meet
    case rel => exact ⟨_, ((t391 != t382)), tS, H', ⟨by have := HJ10.out; first | omega | exact Nat.le_refl _⟩, ⟨by (with_reducible repeat (first | apply Kd.RqA | apply Kd.RqN | apply Kd.RqD)); exact Kd.R_mono HO_5.out (fun _ hk => hk.2.1)⟩, ⟨by (with_reducible repeat (first | apply Kd.RqA | apply Kd.RqN | apply Kd.RqD)); exact Kd.R_mono HO_8.out (fun _ hk => hk.1)⟩, ⟨tG BK373.out⟩, ⟨tB⟩⟩
   replace c40 := Bool.eq_false_iff.mpr c40
   subst c40
   rw [if_neg (show ¬ (false = true) by decide)] at H
   replace H' := Aq.mk H
   clear H
   obtain ⟨Ao43, co43, eo43⟩ := Kd.R_slice HO_8.out
   subst eo43
   obtain ⟨Ao44, co44, eo44⟩ := Kd.R_slice HO_5.out
   subst eo44
   go_wp2_with (first | (go_at_call 14; (with_reducible refine (laws_eqInt64S.calls kj10 _ _ t388 _ _ t379 false _ ?s1 ?s2 ?s3 ?s4 A39.out).mono ?_); (case s1 => exact tC ((Kd.R_reads' HO_8.out).2.2)); (case s2 => exact (Kd.R_reads' HO_8.out).2.1); (case s3 => exact tC ((Kd.R_reads' HO_5.out).2.2)); (case s4 => exact (Kd.R_reads' HO_5.out).2.1); rintro e w' ⟨rfl, ⟨nd, rfl⟩⟩))
   go_meet
   case rel => exact ⟨_, (true), tS, H', ⟨by have := HJ10.out; first | omega | exact Nat.le_refl _⟩, ⟨by (with_reducible repeat (first | apply Kd.RqA | apply Kd.RqN | apply Kd.RqD)); exact Kd.R_mono HO_5.out (fun _ hk => hk.2.1)⟩, ⟨by (with_reducible repeat (first | apply Kd.RqA | apply Kd.RqN | apply Kd.RqD)); exact Kd.R_mono HO_8.out (fun _ hk => hk.1)⟩, ⟨tG BK373.out⟩, ⟨tB⟩⟩
  clear HC34
  try clear c1
  try clear c3
  try clear c3b0
  try clear c3b1
  try clear c24
  try clear c29
  try clear c32
  try clear c38
  try clear c38b0
  try clear c40
  try clear hcz13_0
  try clear hcz13_1
  try clear hcz19_0
  try clear hcz19_1
  try clear hfz13_0
  try clear hfz13_1
  try clear hfz19_0
  try clear hfz19_1
  obtain ⟨kq, x64_33, rfl, HA, HJ33, HO_5, HO_8, BK373, HB⟩ := hcut
  cases kq with
  | zero => exact absurd HA.out (by simp [laws_FnExactDualBasis.j1])
  | succ kj33 =>
   have H := HA.out
   clear HA
   simp only [laws_FnExactDualBasis.j1] at H
   by_cases c45 : x64_33 = true
   ·subst c45
    rw [if_pos rfl] at H
    obtain rfl := Option.some.inj H
    go_wp2
    go_ret
    exact ⟨tE, tB⟩
   replace c45 := Bool.eq_false_iff.mpr c45
   subst c45
   rw [if_neg (show ¬ (false = true) by decide)] at H
   obtain ⟨⟨t400, t401⟩, A46, H⟩ := qBd H
   (try dsimp only at H)
   obtain ⟨t402, A47, H⟩ := qBd H
   by_cases c48 : t402 < 0
   ·rw [if_pos c48] at H
    have c48b0 := decide_eq_true c48
    clear c48
    obtain rfl := Option.some.inj H
    obtain ⟨Ao49, co49, eo49⟩ := Kd.R_slice HO_8.out
    subst eo49
    go_wp2_with (first | ((with_reducible refine gQc (f := 15) rfl ?_); refine goesL_ (some 67) rfl rfl Try.func15 (by kernel_rfl) rfl #[.slice Ao49 t388.length co49, .int .i64 1] rfl tL ?_; (with_reducible refine (laws_markInt64S.calls kj33 (fun k_ => some k_ = (.slice Ao49 t388.length co49 : Value).ownBlock) (.slice Ao49 t388.length co49) t388 1 t400 t401 w _ ?s1 ?s2 A46.out).mono ?_); (case s1 => exact tB); (case s2 => exact Kd.R_tight rfl HO_8.out); rintro e w50 ⟨rfl, hy0, hb, hkp⟩; refine ⟨_, rfl, ?_⟩; refine qM4 (Kd.R_mono (ok' := fun k_ => some k_ ≠ (.slice Ao49 t388.length co49 : Value).ownBlock) (Kd.R_keptB (HO_5.out) hkp (fun k_ hk_ hs_ => (hk_) hs_)) (fun k_ hk_ => hk_.1)) (Kd.R_reok rfl hy0 (fun k_ e_ => HO_8.out.1 k_ e_)) (blk_kept (tG BK373.out) hkp (fun hs_ => (fun e_ => (Kd.R_ne HO_8.out BK373.out (by decide)) e_) hs_)) hb ?_; clear HO_5 HO_8 BK373 HB; intro HO_5 HO_8 BK373 HB; (try clear hb); (try clear hkp); (try clear hy0)) | ((with_reducible refine gQc (f := 16) rfl ?_); refine goesL_ (some 70) rfl rfl Try.func16 (by kernel_rfl) rfl #[.slice Ao49 t401.length co49, .int .i64 1] rfl (by (try simp only [List.map_toArray, List.map_cons, List.map_nil]); first | done | (rw [show t401.length = t388.length from (Kd.R_reads' HO_8.out).1.symm] <;> rfl) | rfl | (simp only [List.length_drop, List.length_take]; rfl)) ?_; (with_reducible refine (laws_heldInt64S.calls kj33 _ _ t401 1 t402 _ ?s1 ?s2 A47.out).mono ?_); (case s1 => exact tC ((Kd.R_reads' HO_8.out).2.2)); (case s2 => rw [show t401.length = t388.length from (Kd.R_reads' HO_8.out).1.symm]; exact (Kd.R_reads' HO_8.out).2.1); rintro e w' ⟨rfl, ⟨nd, rfl⟩⟩; refine ⟨_, rfl, ?_⟩))
    go_ret
    exact ⟨tE, tB⟩
   rw [if_neg c48] at H
   have c48b0 := decide_eq_false c48
   clear c48
   by_cases c51 : t402 = t400
   rotate_left
   ·rw [if_neg c51] at H
    have c51b0 := beq_eq_false_iff_ne.mpr c51
    have c51b1 := bne_iff_ne.mpr c51
    obtain rfl := Option.some.inj H
    obtain ⟨Ao73, co73, eo73⟩ := Kd.R_slice HO_8.out
    subst eo73
    go_wp2_with (first | ((with_reducible refine gQc (f := 15) rfl ?_); refine goesL_ (some 67) rfl rfl Try.func15 (by kernel_rfl) rfl #[.slice Ao73 t388.length co73, .int .i64 1] rfl tL ?_; (with_reducible refine (laws_markInt64S.calls kj33 (fun k_ => some k_ = (.slice Ao73 t388.length co73 : Value).ownBlock) (.slice Ao73 t388.length co73) t388 1 t400 t401 w _ ?s1 ?s2 A46.out).mono ?_); (case s1 => exact tB); (case s2 => exact Kd.R_tight rfl HO_8.out); rintro e w74 ⟨rfl, hy0, hb, hkp⟩; refine ⟨_, rfl, ?_⟩; refine qM4 (Kd.R_mono (ok' := fun k_ => some k_ ≠ (.slice Ao73 t388.length co73 : Value).ownBlock) (Kd.R_keptB (HO_5.out) hkp (fun k_ hk_ hs_ => (hk_) hs_)) (fun k_ hk_ => hk_.1)) (Kd.R_reok rfl hy0 (fun k_ e_ => HO_8.out.1 k_ e_)) (blk_kept (tG BK373.out) hkp (fun hs_ => (fun e_ => (Kd.R_ne HO_8.out BK373.out (by decide)) e_) hs_)) hb ?_; clear HO_5 HO_8 BK373 HB; intro HO_5 HO_8 BK373 HB; (try clear hb); (try clear hkp); (try clear hy0)) | ((with_reducible refine gQc (f := 16) rfl ?_); refine goesL_ (some 70) rfl rfl Try.func16 (by kernel_rfl) rfl #[.slice Ao73 t401.length co73, .int .i64 1] rfl (by (try simp only [List.map_toArray, List.map_cons, List.map_nil]); first | done | (rw [show t401.length = t388.length from (Kd.R_reads' HO_8.out).1.symm] <;> rfl) | rfl | (simp only [List.length_drop, List.length_take]; rfl)) ?_; (with_reducible refine (laws_heldInt64S.calls kj33 _ _ t401 1 t402 _ ?s1 ?s2 A47.out).mono ?_); (case s1 => exact tC ((Kd.R_reads' HO_8.out).2.2)); (case s2 => rw [show t401.length = t388.length from (Kd.R_reads' HO_8.out).1.symm]; exact (Kd.R_reads' HO_8.out).2.1); rintro e w' ⟨rfl, ⟨nd, rfl⟩⟩; refine ⟨_, rfl, ?_⟩))
    go_ret
    exact ⟨tE, tB⟩
   rw [if_pos c51] at H
   have c51b0 := beq_iff_eq.mpr c51
   have c51b1 := bne_eq_false_iff_eq.mpr c51
   clear c51
   obtain ⟨⟨t403, t404⟩, A52, H⟩ := qBd H
   (try dsimp only at H)
   obtain ⟨t405, A53, H⟩ := qBd H
   obtain ⟨⟨t408, t411⟩, A54, H⟩ := qBd H
   (try dsimp only at H)
   have HC55 := Aq.mk H
   clear H
   obtain ⟨Ao56, co56, eo56⟩ := Kd.R_slice HO_8.out
   subst eo56
   go_upto_region 23 with (first | ((with_reducible refine gQc (f := 15) rfl ?_); refine goesL_ (some 67) rfl rfl Try.func15 (by kernel_rfl) rfl #[.slice Ao56 t388.length co56, .int .i64 1] rfl tL ?_; (with_reducible refine (laws_markInt64S.calls kj33 (fun k_ => some k_ = (.slice Ao56 t388.length co56 : Value).ownBlock) (.slice Ao56 t388.length co56) t388 1 t400 t401 w _ ?s1 ?s2 A46.out).mono ?_); (case s1 => exact tB); (case s2 => exact Kd.R_tight rfl HO_8.out); rintro e w57 ⟨rfl, hy0, hb, hkp⟩; refine ⟨_, rfl, ?_⟩; refine qM4 (Kd.R_mono (ok' := fun k_ => some k_ ≠ (.slice Ao56 t388.length co56 : Value).ownBlock) (Kd.R_keptB (HO_5.out) hkp (fun k_ hk_ hs_ => (hk_) hs_)) (fun k_ hk_ => hk_.1)) (Kd.R_reok rfl hy0 (fun k_ e_ => HO_8.out.1 k_ e_)) (blk_kept (tG BK373.out) hkp (fun hs_ => (fun e_ => (Kd.R_ne HO_8.out BK373.out (by decide)) e_) hs_)) hb ?_; clear HO_5 HO_8 BK373 HB; intro HO_5 HO_8 BK373 HB; (try clear hb); (try clear hkp); (try clear hy0)) | ((with_reducible refine gQc (f := 16) rfl ?_); refine goesL_ (some 70) rfl rfl Try.func16 (by kernel_rfl) rfl #[.slice Ao56 t401.length co56, .int .i64 1] rfl (by (try simp only [List.map_toArray, List.map_cons, List.map_nil]); first | done | (rw [show t401.length = t388.length from (Kd.R_reads' HO_8.out).1.symm] <;> rfl) | rfl | (simp only [List.length_drop, List.length_take]; rfl)) ?_; (with_reducible refine (laws_heldInt64S.calls kj33 _ _ t401 1 t402 _ ?s1 ?s2 A47.out).mono ?_); (case s1 => exact tC ((Kd.R_reads' HO_8.out).2.2)); (case s2 => rw [show t401.length = t388.length from (Kd.R_reads' HO_8.out).1.symm]; exact (Kd.R_reads' HO_8.out).2.1); rintro e w' ⟨rfl, ⟨nd, rfl⟩⟩; refine ⟨_, rfl, ?_⟩; have hcz58_0 : w57.cell? ⟨gb373, 0, none⟩ = some (.int .i64 a0_0) := (kQC BK373.out 0).trans rfl; have hcz58_1 : w57.cell? ⟨gb373, 1, none⟩ = some (.int .i64 a0_1) := (kQC BK373.out 1).trans rfl; have hfz58_0 := kQF BK373.out 0; have hfz58_1 := kQF BK373.out 1) | ((with_reducible refine gQc (f := 10) rfl ?_); refine goesL_ (some 78) rfl rfl Try.func10 (by kernel_rfl) rfl #[.agg #[.int .i64 a0_0, .int .i64 a0_1]] rfl tL ?_; (with_reducible refine (laws_toField.calls a0_0 a0_1 t403 t404 _ A52.out).mono ?_); rintro e w59 ⟨rfl, hb⟩; refine ⟨_, rfl, ?_⟩; refine qM4 (Kd.R_below (tR HO_5.out) hb) (Kd.R_below (tR HO_8.out) hb) (tQ BK373.out hb) (bQT tB hb) ?_; clear HO_5 HO_8 BK373 HB; intro HO_5 HO_8 BK373 HB; (try clear hb); (try clear hb2); (try clear hk); (try clear hi)) | ((with_reducible refine gQc (f := 18) rfl ?_); refine goesL_ (some 80) rfl rfl Try.func18 (by kernel_rfl) rfl #[.slice A1 l1.length c1] rfl tL ?_; (with_reducible refine (laws_toInt64S.calls kj33 _ _ l1 t405 _ ?s1 ?s2 A53.out).mono ?_); (case s1 => exact tC ((Kd.C_below HR1.out HB.out))); (case s2 => exact HC1.out); rintro e w60 ⟨v406, rfl, ho0, hb⟩; refine ⟨_, rfl, ?_⟩; refine qM5 (Kd.R_elder' (tR HO_5.out) (Kd.R_base ho0) hb) (Kd.R_elder' (tR HO_8.out) (Kd.R_base ho0) hb) (Kd.R_lower (Kd.R_new' (Kd.R_new' ho0 (Kd.R_lt (tR HO_5.out))) (Kd.R_lt (tR HO_8.out))) (bQZ tB)) (tQ BK373.out hb) (bQT tB hb) ?_; clear HO_5 HO_8 BK373 HB; intro HO_5 HO_8 HO407 BK373 HB; (try clear hb); (try clear hb2); (try clear hk); (try clear hi); (try clear ho0); obtain ⟨Ao61, co61, eo61⟩ := Kd.R_slice HO407.out; subst eo61) | ((with_reducible refine gQc (f := 21) rfl ?_); refine goesL_ (some 81) rfl rfl Try.func21 (by kernel_rfl) rfl #[.agg #[.int .i64 t403, .int .i64 t404], .slice Ao61 t405.length co61] rfl tL ?_; (with_reducible refine (impl_DualBasis.calls kj33 t403 t404 _ _ t405 t408 t411 _ ?s1 ?s2 A54.out).mono ?_); (case s1 => exact tC ((Kd.R_reads' HO407.out).2.2)); (case s2 => exact (Kd.R_reads' HO407.out).2.1); rintro e w62 ⟨v409, rfl, ho0, hb⟩; refine ⟨_, rfl, ?_⟩; refine qM6 (Kd.R_elder' (tR HO_5.out) (Kd.R_base ho0) hb) (Kd.R_elder' (tR HO_8.out) (Kd.R_base ho0) hb) (Kd.R_elder' (tR HO407.out) (Kd.R_base ho0) hb) (Kd.R_lower (Kd.R_new' (Kd.R_new' (Kd.R_new' ho0 (Kd.R_lt (tR HO_5.out))) (Kd.R_lt (tR HO_8.out))) (Kd.R_lt (tR HO407.out))) (bQZ tB)) (tQ BK373.out hb) (bQT tB hb) ?_; clear HO_5 HO_8 HO407 BK373 HB; intro HO_5 HO_8 HO407 HO410 BK373 HB; (try clear hb); (try clear hb2); (try clear hk); (try clear hi); (try clear ho0)))
   (try simp only [Act.put, qSa, qSb, qSc])
   go_cut [92] (fun v92 wc => ∃ (kq : Nat) (x92_54 : Bool), v92 = .bool x92_54 ∧ Aq (laws_FnExactDualBasis.j2 kq t401 t400 x92_54 = some r) ∧ Aq (kq ≤ kj33) ∧ Aq (Kd.R (Kd.int .i64) 2 wc w.heap.size (fun _ => True) (.slice Ao56 t388.length co56) t401) ∧ Aq (wc.heap[gb373]? = some (.cells #[.int .i64 a0_0, .int .i64 a0_1] 23 (0, 0))) ∧ Aq (Below w.heap.size w wc))
   case first =>
    have H := HC55.out
    clear HC55
    obtain ⟨t412, A63, H⟩ := qBd H
    by_cases c64 : t412 = true
    ·subst c64
     rw [if_pos rfl] at H
     replace H' := Aq.mk H
     clear H
     obtain ⟨Ao65, co65, eo65⟩ := Kd.R_slice HO410.out
     subst eo65
     obtain ⟨Ao66, co66, eo66⟩ := Kd.R_slice HO_5.out
     subst eo66
     go_wp2_with (first | ((with_reducible refine gQc (f := 14) rfl ?_); refine goesL_ (some 86) rfl rfl Try.func14 (by kernel_rfl) rfl #[.slice Ao65 t408.length co65, .slice Ao66 t379.length co66] rfl tL ?_; (with_reducible refine (laws_eqInt64S.calls kj33 _ _ t408 _ _ t379 true _ ?s1 ?s2 ?s3 ?s4 A63.out).mono ?_); (case s1 => exact tC ((Kd.R_reads' HO410.out).2.2)); (case s2 => exact (Kd.R_reads' HO410.out).2.1); (case s3 => exact tC ((Kd.R_reads' HO_5.out).2.2)); (case s4 => exact (Kd.R_reads' HO_5.out).2.1); rintro e w' ⟨rfl, ⟨nd, rfl⟩⟩; refine ⟨_, rfl, ?_⟩))
     go_meet
     case rel => exact ⟨_, ((t411 != t382)), tS, H', ⟨by have := HJ10.out; have := HJ33.out; first | omega | exact Nat.le_refl _⟩, ⟨by (with_reducible repeat (first | apply Kd.RqA | apply Kd.RqN | apply Kd.RqD)); exact Kd.R_mono HO_8.out (fun _ hk => trivial)⟩, ⟨tG BK373.out⟩, ⟨tB⟩⟩
    replace c64 := Bool.eq_false_iff.mpr c64
    subst c64
    rw [if_neg (show ¬ (false = true) by decide)] at H
    replace H' := Aq.mk H
    clear H
    obtain ⟨Ao67, co67, eo67⟩ := Kd.R_slice HO410.out
    subst eo67
    obtain ⟨Ao68, co68, eo68⟩ := Kd.R_slice HO_5.out
    subst eo68
    go_wp2_with (first | ((with_reducible refine gQc (f := 14) rfl ?_); refine goesL_ (some 86) rfl rfl Try.func14 (by kernel_rfl) rfl #[.slice Ao67 t408.length co67, .slice Ao68 t379.length co68] rfl tL ?_; (with_reducible refine (laws_eqInt64S.calls kj33 _ _ t408 _ _ t379 false _ ?s1 ?s2 ?s3 ?s4 A63.out).mono ?_); (case s1 => exact tC ((Kd.R_reads' HO410.out).2.2)); (case s2 => exact (Kd.R_reads' HO410.out).2.1); (case s3 => exact tC ((Kd.R_reads' HO_5.out).2.2)); (case s4 => exact (Kd.R_reads' HO_5.out).2.1); rintro e w' ⟨rfl, ⟨nd, rfl⟩⟩; refine ⟨_, rfl, ?_⟩))
    go_meet
    case rel => exact ⟨_, (true), tS, H', ⟨by have := HJ10.out; have := HJ33.out; first | omega | exact Nat.le_refl _⟩, ⟨by (with_reducible repeat (first | apply Kd.RqA | apply Kd.RqN | apply Kd.RqD)); exact Kd.R_mono HO_8.out (fun _ hk => trivial)⟩, ⟨tG BK373.out⟩, ⟨tB⟩⟩
   clear HC55
   try clear c1
   try clear c3
   try clear c3b0
   try clear c3b1
   try clear c24
   try clear c29
   try clear c32
   try clear c38
   try clear c38b0
   try clear c40
   try clear c45
   try clear c48
   try clear c48b0
   try clear c51
   try clear c51b0
   try clear c51b1
   try clear c64
   try clear hcz13_0
   try clear hcz13_1
   try clear hcz19_0
   try clear hcz19_1
   try clear hcz58_0
   try clear hcz58_1
   try clear hfz13_0
   try clear hfz13_1
   try clear hfz19_0
   try clear hfz19_1
   try clear hfz58_0
   try clear hfz58_1
   obtain ⟨kq, x92_54, rfl, HA, HJ54, HO_8, BK373, HB⟩ := hcut
   have hl8_54 := (Kd.R_reads' HO_8.out).1
   rw [hl8_54] at HO_8
   (try simp only [hl8_54])
   (try simp only [hl8_54] at BK373)
   cases kq with
   | zero => exact absurd HA.out (by simp [laws_FnExactDualBasis.j2])
   | succ kj54 =>
    have H := HA.out
    clear HA
    simp only [laws_FnExactDualBasis.j2] at H
    by_cases c69 : x92_54 = true
    ·subst c69
     rw [if_pos rfl] at H
     obtain rfl := Option.some.inj H
     go_wp2
     go_ret
     exact ⟨tE, tB⟩
    replace c69 := Bool.eq_false_iff.mpr c69
    subst c69
    rw [if_neg (show ¬ (false = true) by decide)] at H
    obtain ⟨t413, A70, H⟩ := qBd H
    by_cases c71 : t413 < 0
    ·rw [if_pos c71] at H
     have c71b0 := decide_eq_true c71
     clear c71
     (try (have c71b0z := c71b0; simp only [hl8_54] at c71b0z))
     obtain rfl := Option.some.inj H
     go_wp2_with (first | ((with_reducible refine gQc (f := 16) rfl ?_); refine goesL_ (some 95) rfl rfl Try.func16 (by kernel_rfl) rfl #[.slice Ao56 t401.length co56, .int .i64 1] rfl tL ?_; (with_reducible refine (laws_heldInt64S.calls kj54 _ _ t401 1 t413 _ ?s1 ?s2 A70.out).mono ?_); (case s1 => exact tC ((Kd.R_reads' HO_8.out).2.2)); (case s2 => exact (Kd.R_reads' HO_8.out).2.1); rintro e w' ⟨rfl, ⟨nd, rfl⟩⟩; refine ⟨_, rfl, ?_⟩))
     go_ret
     exact ⟨tE, tB⟩
    rw [if_neg c71] at H
    have c71b0 := decide_eq_false c71
    clear c71
    (try (have c71b0z := c71b0; simp only [hl8_54] at c71b0z))
    by_cases c72 : t413 = t400
    ·rw [if_pos c72] at H
     have c72b0 := beq_iff_eq.mpr c72
     have c72b1 := bne_eq_false_iff_eq.mpr c72
     clear c72
     (try (have c72b0z := c72b0; simp only [hl8_54] at c72b0z))
     (try (have c72b1z := c72b1; simp only [hl8_54] at c72b1z))
     obtain rfl := Option.some.inj H
     go_wp2_with (first | ((with_reducible refine gQc (f := 16) rfl ?_); refine goesL_ (some 95) rfl rfl Try.func16 (by kernel_rfl) rfl #[.slice Ao56 t401.length co56, .int .i64 1] rfl tL ?_; (with_reducible refine (laws_heldInt64S.calls kj54 _ _ t401 1 t413 _ ?s1 ?s2 A70.out).mono ?_); (case s1 => exact tC ((Kd.R_reads' HO_8.out).2.2)); (case s2 => exact (Kd.R_reads' HO_8.out).2.1); rintro e w' ⟨rfl, ⟨nd, rfl⟩⟩; refine ⟨_, rfl, ?_⟩))
     go_ret
     exact ⟨tE, tB⟩
    rw [if_neg c72] at H
    have c72b0 := beq_eq_false_iff_ne.mpr c72
    have c72b1 := bne_iff_ne.mpr c72
    (try (have c72b0z := c72b0; simp only [hl8_54] at c72b0z))
    (try (have c72b1z := c72b1; simp only [hl8_54] at c72b1z))
    obtain rfl := Option.some.inj H
    go_wp2_with (first | ((with_reducible refine gQc (f := 16) rfl ?_); refine goesL_ (some 95) rfl rfl Try.func16 (by kernel_rfl) rfl #[.slice Ao56 t401.length co56, .int .i64 1] rfl tL ?_; (with_reducible refine (laws_heldInt64S.calls kj54 _ _ t401 1 t413 _ ?s1 ?s2 A70.out).mono ?_); (case s1 => exact tC ((Kd.R_reads' HO_8.out).2.2)); (case s2 => exact (Kd.R_reads' HO_8.out).2.1); rintro e w' ⟨rfl, ⟨nd, rfl⟩⟩; refine ⟨_, rfl, ?_⟩))
    go_ret
    exact ⟨tE, tB⟩
end Go.Proofs.Ytbgbblgdbcjibaa.P
