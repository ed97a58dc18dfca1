/- Functions of the program and what they tell, as the printing program wrote it. -/
import Derived.Test.YtbgbblgdbcjibaaPx0
import Derived.Test.YtbgbblgdbcjibaaPx1
import Derived.Test.YtbgbblgdbcjibaaPx5
import Derived.Test.YtbgbblgdbcjibaaPx7
import Derived.Test.YtbgbblgdbcjibaaPx8
import Derived.Test.YtbgbblgdbcjibaaPx20
import Derived.Test.YtbgbblgdbcjibaaPx21
namespace Go.Proofs.Ytbgbblgdbcjibaa.P
open Go.Shelf Go.RowKit Go.Proofs.YtbgbblgdbcjibaaW.PrintWords Go.Proofs.YtbgbblgdbcjibaaW.PrintLast Go.Proofs.YtbgbblgdbcjibaaW.PrintMore
attribute [local go_sem] max2_int min2_int max_two min_two max_three min_three max_four min_four
set_option linter.unusedVariables false
set_option linter.unusedSimpArgs false
set_option maxHeartbeats 8000000
set_option maxRecDepth 100000
mutual
def laws_FnExactRootsOf.j0 : Nat → List Int → List Int → Int → List Int → List Int → Int → Bool → Int → Int → Option (Bool)
  | 0, _, _, _, _, _, _, _, _, _ => none
  | k + 1, x1, x5, x6, x7, x8, x9, x43, x432000, x432001 => if x43 = true then (some false) else ((laws_toInt64S.f k x1).bind fun t451 => ((laws_eqInt64S.f k x7 t451).bind fun t454 => (if t454 = true then ((laws_markInt64S.f k x7 1).bind fun bt455 => (if bt455.1 < 0 then (laws_FnExactRootsOf.j1 k x1 x5 x6 x8 true x432000 x432001) else ((laws_eqInt64S.f k x8 x5).bind fun t457 => (if t457 = true then (laws_FnExactRootsOf.j1 k x1 x5 x6 x8 (x9 != x6) x432000 x432001) else (laws_FnExactRootsOf.j1 k x1 x5 x6 x8 true x432000 x432001))))) else (some false))))
def laws_FnExactRootsOf.j1 : Nat → List Int → List Int → Int → List Int → Bool → Int → Int → Option (Bool)
  | 0, _, _, _, _, _, _, _ => none
  | k + 1, x1, x5, x6, x8, x64, x432000, x432001 => if x64 = true then (some false) else ((laws_markInt64S.f k x8 1).bind fun bt458 => ((laws_heldInt64S.f k bt458.2 1).bind fun t460 => (if t460 < 0 then (some false) else (if t460 = bt458.1 then ((laws_toField.f x432000 x432001).bind fun bt461 => ((laws_toInt64S.f k x1).bind fun t463 => ((impl_RootsOf.f k bt461.1 bt461.2 t463).bind fun bt466 => ((laws_eqInt64S.f k bt466.1 x5).bind fun t470 => (if t470 = true then (laws_FnExactRootsOf.j2 k bt458.2 bt458.1 (bt466.2 != x6)) else (laws_FnExactRootsOf.j2 k bt458.2 bt458.1 true)))))) else (some false)))))
def laws_FnExactRootsOf.j2 : Nat → List Int → Int → Bool → Option (Bool)
  | 0, _, _, _ => none
  | k + 1, x8, x11, x92 => if x92 = true then (some false) else ((laws_heldInt64S.f k x8 1).bind fun t471 => (if t471 < 0 then (some false) else (if t471 = x11 then (some true) else (some false))))
end
def laws_FnExactRootsOf.f (k : Nat) (a0_0 : Int) (a0_1 : Int) (l1 : List Int) : Option (Bool) := if (l1.length : Int) > 1048576 then (some true) else ((laws_toField.f a0_0 a0_1).bind fun bt432 => ((laws_toInt64S.f k l1).bind fun t434 => ((spec_RootsOf.f k bt432.1 bt432.2 t434).bind fun bt437 => ((laws_toInt64S.f k l1).bind fun t441 => ((laws_toField.f a0_0 a0_1).bind fun bt444 => ((impl_RootsOf.f k bt444.1 bt444.2 t441).bind fun bt446 => ((laws_eqInt64S.f k bt446.1 bt437.1).bind fun t450 => (if t450 = true then (laws_FnExactRootsOf.j0 k l1 bt437.1 bt437.2 t441 bt446.1 bt446.2 (bt446.2 != bt437.2) a0_0 a0_1) else (laws_FnExactRootsOf.j0 k l1 bt437.1 bt437.2 t441 bt446.1 bt446.2 true a0_0 a0_1)))))))))
theorem laws_FnExactRootsOf.mono_l : ∀ k, (∀ y0 y1 y2 y3 y4 y5 y6 y7 y8, LeO (laws_FnExactRootsOf.j0 k y0 y1 y2 y3 y4 y5 y6 y7 y8) (laws_FnExactRootsOf.j0 (k + 1) y0 y1 y2 y3 y4 y5 y6 y7 y8)) ∧ (∀ y0 y1 y2 y3 y4 y5 y6, LeO (laws_FnExactRootsOf.j1 k y0 y1 y2 y3 y4 y5 y6) (laws_FnExactRootsOf.j1 (k + 1) y0 y1 y2 y3 y4 y5 y6)) ∧ (∀ y0 y1 y2, LeO (laws_FnExactRootsOf.j2 k y0 y1 y2) (laws_FnExactRootsOf.j2 (k + 1) y0 y1 y2))
 | 0 => ⟨fun _ _ _ _ _ _ _ _ _ r h => by simp [laws_FnExactRootsOf.j0] at h, fun _ _ _ _ _ _ _ r h => by simp [laws_FnExactRootsOf.j1] at h, fun _ _ _ r h => by simp [laws_FnExactRootsOf.j2] at h⟩
 | k + 1 => by
  obtain ⟨ih0, ih1, ih2⟩ := laws_FnExactRootsOf.mono_l k
  refine ⟨?_, ?_, ?_⟩ <;> intros <;> first | unfold laws_FnExactRootsOf.j0 | unfold laws_FnExactRootsOf.j1 | unfold laws_FnExactRootsOf.j2
  all_goals repeat' first
   | (with_reducible first | apply ih0 | apply ih1 | apply ih2 | apply impl_RootsOf.mono | apply laws_eqInt64S.mono | apply laws_heldInt64S.mono | apply laws_markInt64S.mono | apply laws_toInt64S.mono | apply spec_RootsOf.mono | exact LeO.refl _ | exact LeO.none _ | refine LeO.ite ?_ ?_ | refine LeO.bind ?_ (fun _ => ?_))
   | exact LeO.none _
   | refine LeO.ite ?_ ?_
   | refine LeO.bind ?_ (fun _ => ?_)
theorem laws_FnExactRootsOf.mono : ∀ a0 a1 a2 k, LeO (laws_FnExactRootsOf.f k a0 a1 a2) (laws_FnExactRootsOf.f (k + 1) a0 a1 a2) := by
 intro a0 a1 a2 k
 obtain ⟨ih0, ih1, ih2⟩ := laws_FnExactRootsOf.mono_l k
 unfold laws_FnExactRootsOf.f
 repeat' first
  | (with_reducible first | apply ih0 | apply ih1 | apply ih2 | apply impl_RootsOf.mono | apply laws_eqInt64S.mono | apply laws_heldInt64S.mono | apply laws_markInt64S.mono | apply laws_toInt64S.mono | apply spec_RootsOf.mono | exact LeO.refl _ | exact LeO.none _ | refine LeO.ite ?_ ?_ | refine LeO.bind ?_ (fun _ => ?_))
  | exact LeO.none _
  | refine LeO.ite ?_ ?_
  | refine LeO.bind ?_ (fun _ => ?_)
theorem laws_FnExactRootsOf.calls (k : Nat) (a0_0 : Int) (a0_1 : Int) (A1 : Option Addr) (c1 : Nat) (l1 : List Int) (r : Bool) (w : World) (hr1 : Kd.C (Kd.int .i64) w A1 l1.length l1) (hc1 : l1.length ≤ c1) (h : laws_FnExactRootsOf.f k a0_0 a0_1 l1 = some r) :
 Calls Try.prog 7 #[.agg #[.int .i64 a0_0, .int .i64 a0_1], .slice A1 l1.length c1] w fun e w' => e = .returned (.bool r) ∧ Below w.heap.size w w' := by
 have hu23 := Try.underlying23
 have HR1 := Aq.mk hr1
 have HC1 := Aq.mk hc1
 clear hr1 hc1
 have HB := Aq.mk (Below.refl w.heap.size w)
 have H : (if (l1.length : Int) > 1048576 then (some true) else ((laws_toField.f a0_0 a0_1).bind fun bt432 => ((laws_toInt64S.f k l1).bind fun t434 => ((spec_RootsOf.f k bt432.1 bt432.2 t434).bind fun bt437 => ((laws_toInt64S.f k l1).bind fun t441 => ((laws_toField.f a0_0 a0_1).bind fun bt444 => ((impl_RootsOf.f k bt444.1 bt444.2 t441).bind fun bt446 => ((laws_eqInt64S.f k bt446.1 bt437.1).bind fun t450 => (if t450 = true then (laws_FnExactRootsOf.j0 k l1 bt437.1 bt437.2 t441 bt446.1 bt446.2 (bt446.2 != bt437.2) a0_0 a0_1) else (laws_FnExactRootsOf.j0 k l1 bt437.1 bt437.2 t441 bt446.1 bt446.2 true a0_0 a0_1)))))))))) = some r := h
 clear h
 by_cases c3 : (l1.length : Int) > 1048576
 ·rw [if_pos c3] at H
  have c3b0 := decide_eq_true c3
  have c3b1 : decide (1048576 < l1.length) = true := decide_eq_true (by omega)
  clear c3
  obtain rfl := Option.some.inj H
  go_enter Try.func7, Try.ntmps7
  go_wp2_with (first | ((with_reducible refine gQd (N := 2) rfl ?_); refine xQe ?hg (N := 2) ?hd (cs := #[.int .i64 a0_0, .int .i64 a0_1]) (t := 23) ?hr ?_; (case hd => rfl); (case hg => rfl); (case hr => exact tH); intro gb431 hg w4 hbox hb; refine qM4 (bQT tB hb) hbox (tZ w hg) (tZ w hg) ?_; clear HB; intro HB BK431 GW431 GE431; clear hb hbox hg))
  go_ret
  exact ⟨tE, tB⟩
 rw [if_neg c3] at H
 have c3b0 := decide_eq_false c3
 have c3b1 : decide (1048576 < l1.length) = false := decide_eq_false (by omega)
 clear c3
 obtain ⟨⟨t432, t433⟩, A5, H⟩ := qBd H
 (try dsimp only at H)
 obtain ⟨t434, A6, H⟩ := qBd H
 obtain ⟨⟨t437, t440⟩, A7, H⟩ := qBd H
 (try dsimp only at H)
 obtain ⟨t441, A8, H⟩ := qBd H
 obtain ⟨⟨t444, t445⟩, A9, H⟩ := qBd H
 (try dsimp only at H)
 obtain ⟨⟨t446, t449⟩, A10, H⟩ := qBd H
 (try dsimp only at H)
 have HC11 := Aq.mk H
 clear H
 go_enter Try.func7, Try.ntmps7
 go_upto_region 6 with (first | ((with_reducible refine gQd (N := 2) rfl ?_); refine xQe ?hg (N := 2) ?hd (cs := #[.int .i64 a0_0, .int .i64 a0_1]) (t := 23) ?hr ?_; (case hd => rfl); (case hg => rfl); (case hr => exact tH); intro gb431 hg w12 hbox hb; refine qM4 (bQT tB hb) hbox (tZ w hg) (tZ w hg) ?_; clear HB; intro HB BK431 GW431 GE431; clear hb hbox hg; have hcz13_0 : w12.cell? ⟨gb431, 0, none⟩ = some (.int .i64 a0_0) := (kQC BK431.out 0).trans rfl; have hcz13_1 : w12.cell? ⟨gb431, 1, none⟩ = some (.int .i64 a0_1) := (kQC BK431.out 1).trans rfl; have hfz13_0 := kQF BK431.out 0; have hfz13_1 := kQF BK431.out 1) | ((with_reducible refine gQc (f := 10) rfl ?_); refine goesL_ (some 20) rfl rfl Try.func10 (by kernel_rfl) rfl #[.agg #[.int .i64 a0_0, .int .i64 a0_1]] rfl tL ?_; (with_reducible refine (laws_toField.calls a0_0 a0_1 t432 t433 _ A5.out).mono ?_); rintro e w14 ⟨rfl, hb⟩; refine ⟨_, rfl, ?_⟩; refine qM2 (tQ BK431.out hb) (bQT tB hb) ?_; clear BK431 HB; intro BK431 HB; (try clear hb); (try clear hb2); (try clear hk); (try clear hi)) | ((with_reducible refine gQc (f := 18) rfl ?_); refine goesL_ (some 22) rfl rfl Try.func18 (by kernel_rfl) rfl #[.slice A1 l1.length c1] rfl tL ?_; (with_reducible refine (laws_toInt64S.calls k _ _ l1 t434 _ ?s1 ?s2 A6.out).mono ?_); (case s1 => exact tC ((Kd.C_below HR1.out HB.out))); (case s2 => exact HC1.out); rintro e w15 ⟨v435, rfl, ho0, hb⟩; refine ⟨_, rfl, ?_⟩; refine qM3 (Kd.R_lower ho0 (bQZ tB)) (tQ BK431.out hb) (bQT tB hb) ?_; clear BK431 HB; intro HO436 BK431 HB; (try clear hb); (try clear hb2); (try clear hk); (try clear hi); (try clear ho0); obtain ⟨Ao16, co16, eo16⟩ := Kd.R_slice HO436.out; subst eo16) | ((with_reducible refine gQc (f := 22) rfl ?_); refine goesL_ (some 23) rfl rfl Try.func22 (by kernel_rfl) rfl #[.agg #[.int .i64 t432, .int .i64 t433], .slice Ao16 t434.length co16] rfl tL ?_; (with_reducible refine (spec_RootsOf.calls k t432 t433 _ _ t434 t437 t440 _ ?s1 ?s2 A7.out).mono ?_); (case s1 => exact tC ((Kd.R_reads' HO436.out).2.2)); (case s2 => exact (Kd.R_reads' HO436.out).2.1); rintro e w17 ⟨v438, rfl, ho0, hb⟩; refine ⟨_, rfl, ?_⟩; refine qM4 (Kd.R_elder' (tR HO436.out) (Kd.R_base ho0) hb) (Kd.R_lower (Kd.R_new' ho0 (Kd.R_lt (tR HO436.out))) (bQZ tB)) (tQ BK431.out hb) (bQT tB hb) ?_; clear HO436 BK431 HB; intro HO436 HO439 BK431 HB; (try clear hb); (try clear hb2); (try clear hk); (try clear hi); (try clear ho0)) | ((with_reducible refine gQc (f := 18) rfl ?_); refine goesL_ (some 27) rfl rfl Try.func18 (by kernel_rfl) rfl #[.slice A1 l1.length c1] rfl tL ?_; (with_reducible refine (laws_toInt64S.calls k _ _ l1 t441 _ ?s1 ?s2 A8.out).mono ?_); (case s1 => exact tC ((Kd.C_below HR1.out HB.out))); (case s2 => exact HC1.out); rintro e w18 ⟨v442, rfl, ho0, hb⟩; refine ⟨_, rfl, ?_⟩; refine qM5 (Kd.R_elder' (tR HO436.out) (Kd.R_base ho0) hb) (Kd.R_elder' (tR HO439.out) (Kd.R_base ho0) hb) (Kd.R_lower (Kd.R_new' (Kd.R_new' ho0 (Kd.R_lt (tR HO436.out))) (Kd.R_lt (tR HO439.out))) (bQZ tB)) (tQ BK431.out hb) (bQT tB hb) ?_; clear HO436 HO439 BK431 HB; intro HO436 HO439 HO443 BK431 HB; (try clear hb); (try clear hb2); (try clear hk); (try clear hi); (try clear ho0); have hcz19_0 : w18.cell? ⟨gb431, 0, none⟩ = some (.int .i64 a0_0) := (kQC BK431.out 0).trans rfl; have hcz19_1 : w18.cell? ⟨gb431, 1, none⟩ = some (.int .i64 a0_1) := (kQC BK431.out 1).trans rfl; have hfz19_0 := kQF BK431.out 0; have hfz19_1 := kQF BK431.out 1) | ((with_reducible refine gQc (f := 10) rfl ?_); refine goesL_ (some 30) rfl rfl Try.func10 (by kernel_rfl) rfl #[.agg #[.int .i64 a0_0, .int .i64 a0_1]] rfl tL ?_; (with_reducible refine (laws_toField.calls a0_0 a0_1 t444 t445 _ A9.out).mono ?_); rintro e w20 ⟨rfl, hb⟩; refine ⟨_, rfl, ?_⟩; refine qM5 (Kd.R_below (tR HO436.out) hb) (Kd.R_below (tR HO439.out) hb) (Kd.R_below (tR HO443.out) hb) (tQ BK431.out hb) (bQT tB hb) ?_; clear HO436 HO439 HO443 BK431 HB; intro HO436 HO439 HO443 BK431 HB; (try clear hb); (try clear hb2); (try clear hk); (try clear hi); obtain ⟨Ao21, co21, eo21⟩ := Kd.R_slice HO443.out; subst eo21) | ((with_reducible refine gQc (f := 23) rfl ?_); refine goesL_ (some 32) rfl rfl Try.func23 (by kernel_rfl) rfl #[.agg #[.int .i64 t444, .int .i64 t445], .slice Ao21 t441.length co21] rfl tL ?_; (with_reducible refine (impl_RootsOf.calls k t444 t445 (fun k_ => some k_ = (.slice Ao21 t441.length co21 : Value).ownBlock) _ _ t441 t446 t449 _ ?s1 A10.out).mono ?_); (case s1 => exact Kd.R_V (Kd.R_tight rfl (Kd.R_types (HO443.out) BK431.out (by decide)))); rintro e w22 ⟨v447, rfl, ho0, hb⟩; refine ⟨_, rfl, ?_⟩; refine qM6 (Kd.R_elder' (tR HO436.out) (Kd.R_base ho0) hb) (Kd.R_elder' (tR HO439.out) (Kd.R_base ho0) hb) (Kd.R_elder' (tR HO443.out) (Kd.R_base ho0) hb) (Kd.R_lower (Kd.R_new' (Kd.R_new' (Kd.R_new' (Kd.R_mono (ok' := fun k_ => True) ho0 (fun _ hk_ => trivial)) (Kd.R_lt (tR HO436.out))) (Kd.R_lt (tR HO439.out))) (Kd.R_lt (tR HO443.out))) (bQZ tB)) (tQ BK431.out hb) (bQT tB hb) ?_; clear HO436 HO439 HO443 BK431 HB; intro HO436 HO439 HO443 HO448 BK431 HB; (try clear hb); (try clear hb2); (try clear hk); (try clear hi); (try clear ho0)))
 (try simp only [Act.put, qSa, qSb, qSc])
 go_cut [43] (fun v43 wc => ∃ (kq : Nat) (x43_10 : Bool), v43 = .bool x43_10 ∧ Aq (laws_FnExactRootsOf.j0 kq l1 t437 t440 t441 t446 t449 x43_10 a0_0 a0_1 = some r) ∧ Aq (kq ≤ k) ∧ Aq (Kd.R (Kd.int .i64) 2 wc w.heap.size (fun k_ => some k_ ≠ ((.slice Ao21 t441.length co21) : Value).ownBlock ∧ some k_ ≠ (v447 : Value).ownBlock) v438 t437) ∧ Aq (Kd.R (Kd.int .i64) 2 wc w.heap.size (fun k_ => some k_ ≠ (v438 : Value).ownBlock ∧ some k_ ≠ (v447 : Value).ownBlock) (.slice Ao21 t441.length co21) t441) ∧ Aq (Kd.R (Kd.int .i64) 2 wc w.heap.size (fun k_ => some k_ ≠ (v438 : Value).ownBlock ∧ some k_ ≠ ((.slice Ao21 t441.length co21) : Value).ownBlock) v447 t446) ∧ Aq (wc.heap[gb431]? = some (.cells #[.int .i64 a0_0, .int .i64 a0_1] 23 (0, 0))) ∧ Aq (Below w.heap.size w wc))
 case first =>
  have H := HC11.out
  clear HC11
  obtain ⟨t450, A23, H⟩ := qBd H
  by_cases c24 : t450 = true
  ·subst c24
   rw [if_pos rfl] at H
   replace H' := Aq.mk H
   clear H
   obtain ⟨Ao25, co25, eo25⟩ := Kd.R_slice HO448.out
   subst eo25
   obtain ⟨Ao26, co26, eo26⟩ := Kd.R_slice HO439.out
   subst eo26
   go_wp2_with (first | ((with_reducible refine gQc (f := 14) rfl ?_); refine goesL_ (some 37) rfl rfl Try.func14 (by kernel_rfl) rfl #[.slice Ao25 t446.length co25, .slice Ao26 t437.length co26] rfl tL ?_; (with_reducible refine (laws_eqInt64S.calls k _ _ t446 _ _ t437 true _ ?s1 ?s2 ?s3 ?s4 A23.out).mono ?_); (case s1 => exact tC ((Kd.R_reads' HO448.out).2.2)); (case s2 => exact (Kd.R_reads' HO448.out).2.1); (case s3 => exact tC ((Kd.R_reads' HO439.out).2.2)); (case s4 => exact (Kd.R_reads' HO439.out).2.1); rintro e w' ⟨rfl, ⟨nd, rfl⟩⟩; refine ⟨_, rfl, ?_⟩))
   go_meet
   case rel => exact ⟨_, ((t449 != t440)), tS, H', ⟨tO⟩, ⟨by (with_reducible repeat (first | apply Kd.RqA | apply Kd.RqN | apply Kd.RqD)); exact Kd.R_mono HO439.out (fun _ hk => ⟨hk.1.2, hk.2⟩)⟩, ⟨by (with_reducible repeat (first | apply Kd.RqA | apply Kd.RqN | apply Kd.RqD)); exact Kd.R_mono HO443.out (fun _ hk => ⟨hk.1.2, hk.2⟩)⟩, ⟨by (with_reducible repeat (first | apply Kd.RqA | apply Kd.RqN | apply Kd.RqD)); exact Kd.R_mono HO448.out (fun _ hk => ⟨hk.1.2, hk.2⟩)⟩, ⟨tG BK431.out⟩, ⟨tB⟩⟩
  replace c24 := Bool.eq_false_iff.mpr c24
  subst c24
  rw [if_neg (show ¬ (false = true) by decide)] at H
  replace H' := Aq.mk H
  clear H
  obtain ⟨Ao27, co27, eo27⟩ := Kd.R_slice HO448.out
  subst eo27
  obtain ⟨Ao28, co28, eo28⟩ := Kd.R_slice HO439.out
  subst eo28
  go_wp2_with (first | ((with_reducible refine gQc (f := 14) rfl ?_); refine goesL_ (some 37) rfl rfl Try.func14 (by kernel_rfl) rfl #[.slice Ao27 t446.length co27, .slice Ao28 t437.length co28] rfl tL ?_; (with_reducible refine (laws_eqInt64S.calls k _ _ t446 _ _ t437 false _ ?s1 ?s2 ?s3 ?s4 A23.out).mono ?_); (case s1 => exact tC ((Kd.R_reads' HO448.out).2.2)); (case s2 => exact (Kd.R_reads' HO448.out).2.1); (case s3 => exact tC ((Kd.R_reads' HO439.out).2.2)); (case s4 => exact (Kd.R_reads' HO439.out).2.1); rintro e w' ⟨rfl, ⟨nd, rfl⟩⟩; refine ⟨_, rfl, ?_⟩))
  go_meet
  case rel => exact ⟨_, (true), tS, H', ⟨tO⟩, ⟨by (with_reducible repeat (first | apply Kd.RqA | apply Kd.RqN | apply Kd.RqD)); exact Kd.R_mono HO439.out (fun _ hk => ⟨hk.1.2, hk.2⟩)⟩, ⟨by (with_reducible repeat (first | apply Kd.RqA | apply Kd.RqN | apply Kd.RqD)); exact Kd.R_mono HO443.out (fun _ hk => ⟨hk.1.2, hk.2⟩)⟩, ⟨by (with_reducible repeat (first | apply Kd.RqA | apply Kd.RqN | apply Kd.RqD)); exact Kd.R_mono HO448.out (fun _ hk => ⟨hk.1.2, hk.2⟩)⟩, ⟨tG BK431.out⟩, ⟨tB⟩⟩
 clear HC11
 try clear c1
 try clear c3
 try clear c3b0
 try clear c3b1
 try clear c24
 try clear hcz13_0
 try clear hcz13_1
 try clear hcz19_0
 try clear hcz19_1
 try clear hfz13_0
 try clear hfz13_1
 try clear hfz19_0
 try clear hfz19_1
 obtain ⟨kq, x43_10, rfl, HA, HJ10, HO_5, HO_7, HO_8, BK431, HB⟩ := hcut
 cases kq with
 | zero => exact absurd HA.out (by simp [laws_FnExactRootsOf.j0])
 | succ kj10 =>
  have H := HA.out
  clear HA
  simp only [laws_FnExactRootsOf.j0] at H
  by_cases c29 : x43_10 = true
  ·subst c29
   rw [if_pos rfl] at H
   obtain rfl := Option.some.inj H
   go_wp2
   go_ret
   exact ⟨tE, tB⟩
  replace c29 := Bool.eq_false_iff.mpr c29
  subst c29
  rw [if_neg (show ¬ (false = true) by decide)] at H
  obtain ⟨t451, A30, H⟩ := qBd H
  obtain ⟨t454, A31, H⟩ := qBd H
  by_cases c32 : t454 = true
  rotate_left
  ·replace c32 := Bool.eq_false_iff.mpr c32
   subst c32
   rw [if_neg (show ¬ (false = true) by decide)] at H
   obtain rfl := Option.some.inj H
   go_wp2_with (first | ((with_reducible refine gQc (f := 18) rfl ?_); refine goesL_ (some 46) rfl rfl Try.func18 (by kernel_rfl) rfl #[.slice A1 l1.length c1] rfl tL ?_; (with_reducible refine (laws_toInt64S.calls kj10 _ _ l1 t451 _ ?s1 ?s2 A30.out).mono ?_); (case s1 => exact tC ((Kd.C_below HR1.out HB.out))); (case s2 => exact HC1.out); rintro e w75 ⟨v452, rfl, ho0, hb⟩; refine ⟨_, rfl, ?_⟩; refine qM6 (Kd.R_elder' (tR HO_5.out) (Kd.R_base ho0) hb) (Kd.R_elder' (tR HO_7.out) (Kd.R_base ho0) hb) (Kd.R_elder' (tR HO_8.out) (Kd.R_base ho0) hb) (Kd.R_lower (Kd.R_new' (Kd.R_new' (Kd.R_new' ho0 (Kd.R_lt (tR HO_5.out))) (Kd.R_lt (tR HO_7.out))) (Kd.R_lt (tR HO_8.out))) (bQZ tB)) (tQ BK431.out hb) (bQT tB hb) ?_; clear HO_5 HO_7 HO_8 BK431 HB; intro HO_5 HO_7 HO_8 HO453 BK431 HB; (try clear hb); (try clear hb2); (try clear hk); (try clear hi); (try clear ho0); obtain ⟨Ao76, co76, eo76⟩ := Kd.R_slice HO453.out; subst eo76) | ((with_reducible refine gQc (f := 14) rfl ?_); refine goesL_ (some 47) rfl rfl Try.func14 (by kernel_rfl) rfl #[.slice Ao21 t441.length co21, .slice Ao76 t451.length co76] rfl tL ?_; (with_reducible refine (laws_eqInt64S.calls kj10 _ _ t441 _ _ t451 false _ ?s1 ?s2 ?s3 ?s4 A31.out).mono ?_); (case s1 => exact tC ((Kd.R_reads' HO_7.out).2.2)); (case s2 => exact (Kd.R_reads' HO_7.out).2.1); (case s3 => exact tC ((Kd.R_reads' HO453.out).2.2)); (case s4 => exact (Kd.R_reads' HO453.out).2.1); rintro e w' ⟨rfl, ⟨nd, rfl⟩⟩; refine ⟨_, rfl, ?_⟩))
   go_ret
   exact ⟨tE, tB⟩
  subst c32
  rw [if_pos rfl] at H
  obtain ⟨⟨t455, t456⟩, A33, H⟩ := qBd H
  (try dsimp only at H)
  have HC34 := Aq.mk H
  clear H
  go_upto_region 12 with (first | ((with_reducible refine gQc (f := 18) rfl ?_); refine goesL_ (some 46) rfl rfl Try.func18 (by kernel_rfl) rfl #[.slice A1 l1.length c1] rfl tL ?_; (with_reducible refine (laws_toInt64S.calls kj10 _ _ l1 t451 _ ?s1 ?s2 A30.out).mono ?_); (case s1 => exact tC ((Kd.C_below HR1.out HB.out))); (case s2 => exact HC1.out); rintro e w35 ⟨v452, rfl, ho0, hb⟩; refine ⟨_, rfl, ?_⟩; refine qM6 (Kd.R_elder' (tR HO_5.out) (Kd.R_base ho0) hb) (Kd.R_elder' (tR HO_7.out) (Kd.R_base ho0) hb) (Kd.R_elder' (tR HO_8.out) (Kd.R_base ho0) hb) (Kd.R_lower (Kd.R_new' (Kd.R_new' (Kd.R_new' ho0 (Kd.R_lt (tR HO_5.out))) (Kd.R_lt (tR HO_7.out))) (Kd.R_lt (tR HO_8.out))) (bQZ tB)) (tQ BK431.out hb) (bQT tB hb) ?_; clear HO_5 HO_7 HO_8 BK431 HB; intro HO_5 HO_7 HO_8 HO453 BK431 HB; (try clear hb); (try clear hb2); (try clear hk); (try clear hi); (try clear ho0); obtain ⟨Ao36, co36, eo36⟩ := Kd.R_slice HO453.out; subst eo36) | ((with_reducible refine gQc (f := 14) rfl ?_); refine goesL_ (some 47) rfl rfl Try.func14 (by kernel_rfl) rfl #[.slice Ao21 t441.length co21, .slice Ao36 t451.length co36] rfl tL ?_; (with_reducible refine (laws_eqInt64S.calls kj10 _ _ t441 _ _ t451 true _ ?s1 ?s2 ?s3 ?s4 A31.out).mono ?_); (case s1 => exact tC ((Kd.R_reads' HO_7.out).2.2)); (case s2 => exact (Kd.R_reads' HO_7.out).2.1); (case s3 => exact tC ((Kd.R_reads' HO453.out).2.2)); (case s4 => exact (Kd.R_reads' HO453.out).2.1); rintro e w' ⟨rfl, ⟨nd, rfl⟩⟩; refine ⟨_, rfl, ?_⟩) | ((with_reducible refine gQc (f := 15) rfl ?_); refine goesL_ (some 51) rfl rfl Try.func15 (by kernel_rfl) rfl #[.slice Ao21 t441.length co21, .int .i64 1] rfl tL ?_; (with_reducible refine (laws_markInt64S.calls kj10 (fun k_ => some k_ = (.slice Ao21 t441.length co21 : Value).ownBlock) (.slice Ao21 t441.length co21) t441 1 t455 t456 w _ ?s1 ?s2 A33.out).mono ?_); (case s1 => exact tB); (case s2 => exact Kd.R_tight rfl HO_7.out); rintro e w37 ⟨rfl, hy0, hb, hkp⟩; refine ⟨_, rfl, ?_⟩; refine qM6 (Kd.R_mono (ok' := fun k_ => some k_ ≠ (.slice Ao21 t441.length co21 : Value).ownBlock ∧ some k_ ≠ (v447 : Value).ownBlock ∧ some k_ ≠ (.slice Ao36 t451.length co36 : Value).ownBlock) (Kd.R_keptB (HO_5.out) hkp (fun k_ hk_ hs_ => (hk_.1.1) hs_)) (fun k_ hk_ => ⟨hk_.1.1.1, hk_.1.1.2, hk_.1.2⟩)) (Kd.R_reok rfl hy0 (fun k_ e_ => HO_7.out.1 k_ e_)) (Kd.R_mono (ok' := fun k_ => some k_ ≠ (v438 : Value).ownBlock ∧ some k_ ≠ (.slice Ao21 t441.length co21 : Value).ownBlock ∧ some k_ ≠ (.slice Ao36 t451.length co36 : Value).ownBlock) (Kd.R_keptB (HO_8.out) hkp (fun k_ hk_ hs_ => (hk_.1.2) hs_)) (fun k_ hk_ => ⟨hk_.1.1.1, hk_.1.1.2, hk_.1.2⟩)) (blk_kept (tG BK431.out) hkp (fun hs_ => (fun e_ => (Kd.R_ne HO_7.out BK431.out (by decide)) e_) hs_)) (Kd.R_mono (ok' := fun k_ => some k_ ≠ (v438 : Value).ownBlock ∧ some k_ ≠ (.slice Ao21 t441.length co21 : Value).ownBlock ∧ some k_ ≠ (v447 : Value).ownBlock) (Kd.R_keptB (HO453.out) hkp (fun k_ hk_ hs_ => (hk_.1.2) hs_)) (fun k_ hk_ => ⟨hk_.1.1.1.2, hk_.1.1.2, hk_.1.2⟩)) hb ?_; clear HO_5 HO_7 HO_8 BK431 HO453 HB; intro HO_5 HO_7 HO_8 BK431 HO453 HB; (try clear hb); (try clear hkp); (try clear hy0)))
  (try simp only [Act.put, qSa, qSb, qSc])
  go_cut [64] (fun v64 wc => ∃ (kq : Nat) (x64_33 : Bool), v64 = .bool x64_33 ∧ Aq (laws_FnExactRootsOf.j1 kq l1 t437 t440 t446 x64_33 a0_0 a0_1 = some r) ∧ Aq (kq ≤ kj10) ∧ Aq (Kd.R (Kd.int .i64) 2 wc w.heap.size (fun k_ => some k_ ≠ (v447 : Value).ownBlock) v438 t437) ∧ Aq (Kd.R (Kd.int .i64) 2 wc w.heap.size (fun k_ => some k_ ≠ (v438 : Value).ownBlock) v447 t446) ∧ Aq (wc.heap[gb431]? = some (.cells #[.int .i64 a0_0, .int .i64 a0_1] 23 (0, 0))) ∧ Aq (Below w.heap.size w wc))
  case first =>
   have H := HC34.out
   clear HC34
   by_cases c38 : t455 < 0
   ·rw [if_pos c38] at H
    have c38b0 := decide_eq_true c38
    clear c38
    (first | rw [c38b0] | (simp only [i64_w, i32_w]; rw [c38b0]) | skip)
    replace H' := Aq.mk H
    clear H
    go_wp2
    go_meet
    case rel => exact ⟨_, (true), tS, H', ⟨by have := HJ10.out; first | omega | exact Nat.le_refl _⟩, ⟨by (with_reducible repeat (first | apply Kd.RqA | apply Kd.RqN | apply Kd.RqD)); exact Kd.R_mono HO_5.out (fun _ hk => hk.2.1)⟩, ⟨by (with_reducible repeat (first | apply Kd.RqA | apply Kd.RqN | apply Kd.RqD)); exact Kd.R_mono HO_8.out (fun _ hk => hk.1)⟩, ⟨tG BK431.out⟩, ⟨tB⟩⟩
   rw [if_neg c38] at H
   have c38b0 := decide_eq_false c38
   clear c38
   (first | rw [c38b0] | (simp only [i64_w, i32_w]; rw [c38b0]) | skip)
   obtain ⟨t457, A39, H⟩ := qBd H
   by_cases c40 : t457 = true
   ·subst c40
    rw [if_pos rfl] at H
    replace H' := Aq.mk H
    clear H
    obtain ⟨Ao41, co41, eo41⟩ := Kd.R_slice HO_8.out
    subst eo41
    obtain ⟨Ao42, co42, eo42⟩ := Kd.R_slice HO_5.out
    subst eo42
    go_wp2_with (first | (go_at_call 14; (with_reducible refine (laws_eqInt64S.calls kj10 _ _ t446 _ _ t437 true _ ?s1 ?s2 ?s3 ?s4 A39.out).mono ?_); (case s1 => exact tC ((Kd.R_reads' HO_8.out).2.2)); (case s2 => exact (Kd.R_reads' HO_8.out).2.1); (case s3 => exact tC ((Kd.R_reads' HO_5.out).2.2)); (case s4 => exact (Kd.R_reads' HO_5.out).2.1); rintro e w' ⟨rfl, ⟨nd, rfl⟩⟩))
    go_meet
    case rel => exact ⟨_, ((t449 != t440)), tS, H', ⟨by have := HJ10.out; first | omega | exact Nat.le_refl _⟩, ⟨by (with_reducible repeat (first | apply Kd.RqA | apply Kd.RqN | apply Kd.RqD)); exact Kd.R_mono HO_5.out (fun _ hk => hk.2.1)⟩, ⟨by (with_reducible repeat (first | apply Kd.RqA | apply Kd.RqN | apply Kd.RqD)); exact Kd.R_mono HO_8.out (fun _ hk => hk.1)⟩, ⟨tG BK431.out⟩, ⟨tB⟩⟩
   replace c40 := Bool.eq_false_iff.mpr c40
   subst c40
   rw [if_neg (show ¬ (false = true) by decide)] at H
   replace H' := Aq.mk H
   clear H
   obtain ⟨Ao43, co43, eo43⟩ := Kd.R_slice HO_8.out
   subst eo43
   obtain ⟨Ao44, co44, eo44⟩ := Kd.R_slice HO_5.out
   subst eo44
   go_wp2_with (first | (go_at_call 14; (with_reducible refine (laws_eqInt64S.calls kj10 _ _ t446 _ _ t437 false _ ?s1 ?s2 ?s3 ?s4 A39.out).mono ?_); (case s1 => exact tC ((Kd.R_reads' HO_8.out).2.2)); (case s2 => exact (Kd.R_reads' HO_8.out).2.1); (case s3 => exact tC ((Kd.R_reads' HO_5.out).2.2)); (case s4 => exact (Kd.R_reads' HO_5.out).2.1); rintro e w' ⟨rfl, ⟨nd, rfl⟩⟩))
   go_meet
   case rel => exact ⟨_, (true), tS, H', ⟨by have := HJ10.out; first | omega | exact Nat.le_refl _⟩, ⟨by (with_reducible repeat (first | apply Kd.RqA | apply Kd.RqN | apply Kd.RqD)); exact Kd.R_mono HO_5.out (fun _ hk => hk.2.1)⟩, ⟨by (with_reducible repeat (first | apply Kd.RqA | apply Kd.RqN | apply Kd.RqD)); exact Kd.R_mono HO_8.out (fun _ hk => hk.1)⟩, ⟨tG BK431.out⟩, ⟨tB⟩⟩
  clear HC34
  try clear c1
  try clear c3
  try clear c3b0
  try clear c3b1
  try clear c24
  try clear c29
  try clear c32
  try clear c38
  try clear c38b0
  try clear c40
  try clear hcz13_0
  try clear hcz13_1
  try clear hcz19_0
  try clear hcz19_1
  try clear hfz13_0
  try clear hfz13_1
  try clear hfz19_0
  try clear hfz19_1
  obtain ⟨kq, x64_33, rfl, HA, HJ33, HO_5, HO_8, BK431, HB⟩ := hcut
  cases kq with
  | zero => exact absurd HA.out (by simp [laws_FnExactRootsOf.j1])
  | succ kj33 =>
   have H := HA.out
   clear HA
   simp only [laws_FnExactRootsOf.j1] at H
   by_cases c45 : x64_33 = true
   ·subst c45
    rw [if_pos rfl] at H
    obtain rfl := Option.some.inj H
    go_wp2
    go_ret
    exact ⟨tE, tB⟩
   replace c45 := Bool.eq_false_iff.mpr c45
   subst c45
   rw [if_neg (show ¬ (false = true) by decide)] at H
   obtain ⟨⟨t458, t459⟩, A46, H⟩ := qBd H
   (try dsimp only at H)
   obtain ⟨t460, A47, H⟩ := qBd H
   by_cases c48 : t460 < 0
   ·rw [if_pos c48] at H
    have c48b0 := decide_eq_true c48
    clear c48
    obtain rfl := Option.some.inj H
    obtain ⟨Ao49, co49, eo49⟩ := Kd.R_slice HO_8.out
    subst eo49
    go_wp2_with (first | ((with_reducible refine gQc (f := 15) rfl ?_); refine goesL_ (some 67) rfl rfl Try.func15 (by kernel_rfl) rfl #[.slice Ao49 t446.length co49, .int .i64 1] rfl tL ?_; (with_reducible refine (laws_markInt64S.calls kj33 (fun k_ => some k_ = (.slice Ao49 t446.length co49 : Value).ownBlock) (.slice Ao49 t446.length co49) t446 1 t458 t459 w _ ?s1 ?s2 A46.out).mono ?_); (case s1 => exact tB); (case s2 => exact Kd.R_tight rfl HO_8.out); rintro e w50 ⟨rfl, hy0, hb, hkp⟩; refine ⟨_, rfl, ?_⟩; refine qM4 (Kd.R_mono (ok' := fun k_ => some k_ ≠ (.slice Ao49 t446.length co49 : Value).ownBlock) (Kd.R_keptB (HO_5.out) hkp (fun k_ hk_ hs_ => (hk_) hs_)) (fun k_ hk_ => hk_.1)) (Kd.R_reok rfl hy0 (fun k_ e_ => HO_8.out.1 k_ e_)) (blk_kept (tG BK431.out) hkp (fun hs_ => (fun e_ => (Kd.R_ne HO_8.out BK431.out (by decide)) e_) hs_)) hb ?_; clear HO_5 HO_8 BK431 HB; intro HO_5 HO_8 BK431 HB; (try clear hb); (try clear hkp); (try clear hy0)) | ((with_reducible refine gQc (f := 16) rfl ?_); refine goesL_ (some 70) rfl rfl Try.func16 (by kernel_rfl) rfl #[.slice Ao49 t459.length co49, .int .i64 1] rfl (by (try simp only [List.map_toArray, List.map_cons, List.map_nil]); first | done | (rw [show t459.length = t446.length from (Kd.R_reads' HO_8.out).1.symm] <;> rfl) | rfl | (simp only [List.length_drop, List.length_take]; rfl)) ?_; (with_reducible refine (laws_heldInt64S.calls kj33 _ _ t459 1 t460 _ ?s1 ?s2 A47.out).mono ?_); (case s1 => exact tC ((Kd.R_reads' HO_8.out).2.2)); (case s2 => rw [show t459.length = t446.length from (Kd.R_reads' HO_8.out).1.symm]; exact (Kd.R_reads' HO_8.out).2.1); rintro e w' ⟨rfl, ⟨nd, rfl⟩⟩; refine ⟨_, rfl, ?_⟩))
    go_ret
    exact ⟨tE, tB⟩
   rw [if_neg c48] at H
   have c48b0 := decide_eq_false c48
   clear c48
   by_cases c51 : t460 = t458
   rotate_left
   ·rw [if_neg c51] at H
    have c51b0 := beq_eq_false_iff_ne.mpr c51
    have c51b1 := bne_iff_ne.mpr c51
    obtain rfl := Option.some.inj H
    obtain ⟨Ao73, co73, eo73⟩ := Kd.R_slice HO_8.out
    subst eo73
    go_wp2_with (first | ((with_reducible refine gQc (f := 15) rfl ?_); refine goesL_ (some 67) rfl rfl Try.func15 (by kernel_rfl) rfl #[.slice Ao73 t446.length co73, .int .i64 1] rfl tL ?_; (with_reducible refine (laws_markInt64S.calls kj33 (fun k_ => some k_ = (.slice Ao73 t446.length co73 : Value).ownBlock) (.slice Ao73 t446.length co73) t446 1 t458 t459 w _ ?s1 ?s2 A46.out).mono ?_); (case s1 => exact tB); (case s2 => exact Kd.R_tight rfl HO_8.out); rintro e w74 ⟨rfl, hy0, hb, hkp⟩; refine ⟨_, rfl, ?_⟩; refine qM4 (Kd.R_mono (ok' := fun k_ => some k_ ≠ (.slice Ao73 t446.length co73 : Value).ownBlock) (Kd.R_keptB (HO_5.out) hkp (fun k_ hk_ hs_ => (hk_) hs_)) (fun k_ hk_ => hk_.1)) (Kd.R_reok rfl hy0 (fun k_ e_ => HO_8.out.1 k_ e_)) (blk_kept (tG BK431.out) hkp (fun hs_ => (fun e_ => (Kd.R_ne HO_8.out BK431.out (by decide)) e_) hs_)) hb ?_; clear HO_5 HO_8 BK431 HB; intro HO_5 HO_8 BK431 HB; (try clear hb); (try clear hkp); (try clear hy0)) | ((with_reducible refine gQc (f := 16) rfl ?_); refine goesL_ (some 70) rfl rfl Try.func16 (by kernel_rfl) rfl #[.slice Ao73 t459.length co73, .int .i64 1] rfl (by (try simp only [List.map_toArray, List.map_cons, List.map_nil]); first | done | (rw [show t459.length = t446.length from (Kd.R_reads' HO_8.out).1.symm] <;> rfl) | rfl | (simp only [List.length_drop, List.length_take]; rfl)) ?_; (with_reducible refine (laws_heldInt64S.calls kj33 _ _ t459 1 t460 _ ?s1 ?s2 A47.out).mono ?_); (case s1 => exact tC ((Kd.R_reads' HO_8.out).2.2)); (case s2 => rw [show t459.length = t446.length from (Kd.R_reads' HO_8.out).1.symm]; exact (Kd.R_reads' HO_8.out).2.1); rintro e w' ⟨rfl, ⟨nd, rfl⟩⟩; refine ⟨_, rfl, ?_⟩))
    go_ret
    exact ⟨tE, tB⟩
   rw [if_pos c51] at H
   have c51b0 := beq_iff_eq.mpr c51
   have c51b1 := bne_eq_false_iff_eq.mpr c51
   clear c51
   obtain ⟨⟨t461, t462⟩, A52, H⟩ := qBd H
   (try dsimp only at H)
   obtain ⟨t463, A53, H⟩ := qBd H
   obtain ⟨⟨t466, t469⟩, A54, H⟩ := qBd H
   (try dsimp only at H)
   have HC55 := Aq.mk H
   clear H
   obtain ⟨Ao56, co56, eo56⟩ := Kd.R_slice HO_8.out
   subst eo56
   go_upto_region 23 with (first | ((with_reducible refine gQc (f := 15) rfl ?_); refine goesL_ (some 67) rfl rfl Try.func15 (by kernel_rfl) rfl #[.slice Ao56 t446.length co56, .int .i64 1] rfl tL ?_; (with_reducible refine (laws_markInt64S.calls kj33 (fun k_ => some k_ = (.slice Ao56 t446.length co56 : Value).ownBlock) (.slice Ao56 t446.length co56) t446 1 t458 t459 w _ ?s1 ?s2 A46.out).mono ?_); (case s1 => exact tB); (case s2 => exact Kd.R_tight rfl HO_8.out); rintro e w57 ⟨rfl, hy0, hb, hkp⟩; refine ⟨_, rfl, ?_⟩; refine qM4 (Kd.R_mono (ok' := fun k_ => some k_ ≠ (.slice Ao56 t446.length co56 : Value).ownBlock) (Kd.R_keptB (HO_5.out) hkp (fun k_ hk_ hs_ => (hk_) hs_)) (fun k_ hk_ => hk_.1)) (Kd.R_reok rfl hy0 (fun k_ e_ => HO_8.out.1 k_ e_)) (blk_kept (tG BK431.out) hkp (fun hs_ => (fun e_ => (Kd.R_ne HO_8.out BK431.out (by decide)) e_) hs_)) hb ?_; clear HO_5 HO_8 BK431 HB; intro HO_5 HO_8 BK431 HB; (try clear hb); (try clear hkp); (try clear hy0)) | ((with_reducible refine gQc (f := 16) rfl ?_); refine goesL_ (some 70) rfl rfl Try.func16 (by kernel_rfl) rfl #[.slice Ao56 t459.length co56, .int .i64 1] rfl (by (try simp only [List.map_toArray, List.map_cons, List.map_nil]); first | done | (rw [show t459.length = t446.length from (Kd.R_reads' HO_8.out).1.symm] <;> rfl) | rfl | (simp only [List.length_drop, List.length_take]; rfl)) ?_; (with_reducible refine (laws_heldInt64S.calls kj33 _ _ t459 1 t460 _ ?s1 ?s2 A47.out).mono ?_); (case s1 => exact tC ((Kd.R_reads' HO_8.out).2.2)); (case s2 => rw [show t459.length = t446.length from (Kd.R_reads' HO_8.out).1.symm]; exact (Kd.R_reads' HO_8.out).2.1); rintro e w' ⟨rfl, ⟨nd, rfl⟩⟩; refine ⟨_, rfl, ?_⟩; have hcz58_0 : w57.cell? ⟨gb431, 0, none⟩ = some (.int .i64 a0_0) := (kQC BK431.out 0).trans rfl; have hcz58_1 : w57.cell? ⟨gb431, 1, none⟩ = some (.int .i64 a0_1) := (kQC BK431.out 1).trans rfl; have hfz58_0 := kQF BK431.out 0; have hfz58_1 := kQF BK431.out 1) | ((with_reducible refine gQc (f := 10) rfl ?_); refine goesL_ (some 78) rfl rfl Try.func10 (by kernel_rfl) rfl #[.agg #[.int .i64 a0_0, .int .i64 a0_1]] rfl tL ?_; (with_reducible refine (laws_toField.calls a0_0 a0_1 t461 t462 _ A52.out).mono ?_); rintro e w59 ⟨rfl, hb⟩; refine ⟨_, rfl, ?_⟩; refine qM4 (Kd.R_below (tR HO_5.out) hb) (Kd.R_below (tR HO_8.out) hb) (tQ BK431.out hb) (bQT tB hb) ?_; clear HO_5 HO_8 BK431 HB; intro HO_5 HO_8 BK431 HB; (try clear hb); (try clear hb2); (try clear hk); (try clear hi)) | ((with_reducible refine gQc (f := 18) rfl ?_); refine goesL_ (some 80) rfl rfl Try.func18 (by kernel_rfl) rfl #[.slice A1 l1.length c1] rfl tL ?_; (with_reducible refine (laws_toInt64S.calls kj33 _ _ l1 t463 _ ?s1 ?s2 A53.out).mono ?_); (case s1 => exact tC ((Kd.C_below HR1.out HB.out))); (case s2 => exact HC1.out); rintro e w60 ⟨v464, rfl, ho0, hb⟩; refine ⟨_, rfl, ?_⟩; refine qM5 (Kd.R_elder' (tR HO_5.out) (Kd.R_base ho0) hb) (Kd.R_elder' (tR HO_8.out) (Kd.R_base ho0) hb) (Kd.R_lower (Kd.R_new' (Kd.R_new' ho0 (Kd.R_lt (tR HO_5.out))) (Kd.R_lt (tR HO_8.out))) (bQZ tB)) (tQ BK431.out hb) (bQT tB hb) ?_; clear HO_5 HO_8 BK431 HB; intro HO_5 HO_8 HO465 BK431 HB; (try clear hb); (try clear hb2); (try clear hk); (try clear hi); (try clear ho0); obtain ⟨Ao61, co61, eo61⟩ := Kd.R_slice HO465.out; subst eo61) | ((with_reducible refine gQc (f := 23) rfl ?_); refine goesL_ (some 81) rfl rfl Try.func23 (by kernel_rfl) rfl #[.agg #[.int .i64 t461, .int .i64 t462], .slice Ao61 t463.length co61] rfl tL ?_; (with_reducible refine (impl_RootsOf.calls kj33 t461 t462 (fun k_ => some k_ = (.slice Ao61 t463.length co61 : Value).ownBlock) _ _ t463 t466 t469 _ ?s1 A54.out).mono ?_); (case s1 => exact Kd.R_V (Kd.R_tight rfl (Kd.R_types (HO465.out) BK431.out (by decide)))); rintro e w62 ⟨v467, rfl, ho0, hb⟩; refine ⟨_, rfl, ?_⟩; refine qM6 (Kd.R_elder' (tR HO_5.out) (Kd.R_base ho0) hb) (Kd.R_elder' (tR HO_8.out) (Kd.R_base ho0) hb) (Kd.R_elder' (tR HO465.out) (Kd.R_base ho0) hb) (Kd.R_lower (Kd.R_new' (Kd.R_new' (Kd.R_new' (Kd.R_mono (ok' := fun k_ => True) ho0 (fun _ hk_ => trivial)) (Kd.R_lt (tR HO_5.out))) (Kd.R_lt (tR HO_8.out))) (Kd.R_lt (tR HO465.out))) (bQZ tB)) (tQ BK431.out hb) (bQT tB hb) ?_; clear HO_5 HO_8 HO465 BK431 HB; intro HO_5 HO_8 HO465 HO468 BK431 HB; (try clear hb); (try clear hb2); (try clear hk); (try clear hi); (try clear ho0)))
   (try simp only [Act.put, qSa, qSb, qSc])
   go_cut [92] (fun v92 wc => ∃ (kq : Nat) (x92_54 : Bool), v92 = .bool x92_54 ∧ Aq (laws_FnExactRootsOf.j2 kq t459 t458 x92_54 = some r) ∧ Aq (kq ≤ kj33) ∧ Aq (Kd.R (Kd.int .i64) 2 wc w.heap.size (fun _ => True) (.slice Ao56 t446.length co56) t459) ∧ Aq (wc.heap[gb431]? = some (.cells #[.int .i64 a0_0, .int .i64 a0_1] 23 (0, 0))) ∧ Aq (Below w.heap.size w wc))
   case first =>
    have H := HC55.out
    clear HC55
    obtain ⟨t470, A63, H⟩ := qBd H
    by_cases c64 : t470 = true
    ·subst c64
     rw [if_pos rfl] at H
     replace H' := Aq.mk H
     clear H
     obtain ⟨Ao65, co65, eo65⟩ := Kd.R_slice HO468.out
     subst eo65
     obtain ⟨Ao66, co66, eo66⟩ := Kd.R_slice HO_5.out
     subst eo66
     go_wp2_with (first | ((with_reducible refine gQc (f := 14) rfl ?_); refine goesL_ (some 86) rfl rfl Try.func14 (by kernel_rfl) rfl #[.slice Ao65 t466.length co65, .slice Ao66 t437.length co66] rfl tL ?_; (with_reducible refine (laws_eqInt64S.calls kj33 _ _ t466 _ _ t437 true _ ?s1 ?s2 ?s3 ?s4 A63.out).mono ?_); (case s1 => exact tC ((Kd.R_reads' HO468.out).2.2)); (case s2 => exact (Kd.R_reads' HO468.out).2.1); (case s3 => exact tC ((Kd.R_reads' HO_5.out).2.2)); (case s4 => exact (Kd.R_reads' HO_5.out).2.1); rintro e w' ⟨rfl, ⟨nd, rfl⟩⟩; refine ⟨_, rfl, ?_⟩))
     go_meet
     case rel => exact ⟨_, ((t469 != t440)), tS, H', ⟨by have := HJ10.out; have := HJ33.out; first | omega | exact Nat.le_refl _⟩, ⟨by (with_reducible repeat (first | apply Kd.RqA | apply Kd.RqN | apply Kd.RqD)); exact Kd.R_mono HO_8.out (fun _ hk => trivial)⟩, ⟨tG BK431.out⟩, ⟨tB⟩⟩
    replace c64 := Bool.eq_false_iff.mpr c64
    subst c64
    rw [if_neg (show ¬ (false = true) by decide)] at H
    replace H' := Aq.mk H
    clear H
    obtain ⟨Ao67, co67, eo67⟩ := Kd.R_slice HO468.out
    subst eo67
    obtain ⟨Ao68, co68, eo68⟩ := Kd.R_slice HO_5.out
    subst eo68
    go_wp2_with (first | ((with_reducible refine gQc (f := 14) rfl ?_); refine goesL_ (some 86) rfl rfl Try.func14 (by kernel_rfl) rfl #[.slice Ao67 t466.length co67, .slice Ao68 t437.length co68] rfl tL ?_; (with_reducible refine (laws_eqInt64S.calls kj33 _ _ t466 _ _ t437 false _ ?s1 ?s2 ?s3 ?s4 A63.out).mono ?_); (case s1 => exact tC ((Kd.R_reads' HO468.out).2.2)); (case s2 => exact (Kd.R_reads' HO468.out).2.1); (case s3 => exact tC ((Kd.R_reads' HO_5.out).2.2)); (case s4 => exact (Kd.R_reads' HO_5.out).2.1); rintro e w' ⟨rfl, ⟨nd, rfl⟩⟩; refine ⟨_, rfl, ?_⟩))
    go_meet
    case rel => exact ⟨_, (true), tS, H', ⟨by have := HJ10.out; have := HJ33.out; first | omega | exact Nat.le_refl _⟩, ⟨by (with_reducible repeat (first | apply Kd.RqA | apply Kd.RqN | apply Kd.RqD)); exact Kd.R_mono HO_8.out (fun _ hk => trivial)⟩, ⟨tG BK431.out⟩, ⟨tB⟩⟩
   clear HC55
   try clear c1
   try clear c3
   try clear c3b0
   try clear c3b1
   try clear c24
   try clear c29
   try clear c32
   try clear c38
   try clear c38b0
   try clear c40
   try clear c45
   try clear c48
   try clear c48b0
   try clear c51
   try clear c51b0
   try clear c51b1
   try clear c64
   try clear hcz13_0
   try clear hcz13_1
   try clear hcz19_0
   try clear hcz19_1
   try clear hcz58_0
   try clear hcz58_1
   try clear hfz13_0
   try clear hfz13_1
   try clear hfz19_0
   try clear hfz19_1
   try clear hfz58_0
   try clear hfz58_1
   obtain ⟨kq, x92_54, rfl, HA, HJ54, HO_8, BK431, HB⟩ := hcut
   have hl8_54 := (Kd.R_reads' HO_8.out).1
   rw [hl8_54] at HO_8
   (try simp only [hl8_54])
   (try simp only [hl8_54] at BK431)
   cases kq with
   | zero => exact absurd HA.out (by simp [laws_FnExactRootsOf.j2])
   | succ kj54 =>
    have H := HA.out
    clear HA
    simp only [laws_FnExactRootsOf.j2] at H
    by_cases c69 : x92_54 = true
    ·subst c69
     rw [if_pos rfl] at H
     obtain rfl := Option.some.inj H
     go_wp2
     go_ret
     exact ⟨tE, tB⟩
    replace c69 := Bool.eq_false_iff.mpr c69
    subst c69
    rw [if_neg (show ¬ (false = true) by decide)] at H
    obtain ⟨t471, A70, H⟩ := qBd H
    by_cases c71 : t471 < 0
    ·rw [if_pos c71] at H
     have c71b0 := decide_eq_true c71
     clear c71
     (try (have c71b0z := c71b0; simp only [hl8_54] at c71b0z))
     obtain rfl := Option.some.inj H
     go_wp2_with (first | ((with_reducible refine gQc (f := 16) rfl ?_); refine goesL_ (some 95) rfl rfl Try.func16 (by kernel_rfl) rfl #[.slice Ao56 t459.length co56, .int .i64 1] rfl tL ?_; (with_reducible refine (laws_heldInt64S.calls kj54 _ _ t459 1 t471 _ ?s1 ?s2 A70.out).mono ?_); (case s1 => exact tC ((Kd.R_reads' HO_8.out).2.2)); (case s2 => exact (Kd.R_reads' HO_8.out).2.1); rintro e w' ⟨rfl, ⟨nd, rfl⟩⟩; refine ⟨_, rfl, ?_⟩))
     go_ret
     exact ⟨tE, tB⟩
    rw [if_neg c71] at H
    have c71b0 := decide_eq_false c71
    clear c71
    (try (have c71b0z := c71b0; simp only [hl8_54] at c71b0z))
    by_cases c72 : t471 = t458
    ·rw [if_pos c72] at H
     have c72b0 := beq_iff_eq.mpr c72
     have c72b1 := bne_eq_false_iff_eq.mpr c72
     clear c72
     (try (have c72b0z := c72b0; simp only [hl8_54] at c72b0z))
     (try (have c72b1z := c72b1; simp only [hl8_54] at c72b1z))
     obtain rfl := Option.some.inj H
     go_wp2_with (first | ((with_reducible refine gQc (f := 16) rfl ?_); refine goesL_ (some 95) rfl rfl Try.func16 (by kernel_rfl) rfl #[.slice Ao56 t459.length co56, .int .i64 1] rfl tL ?_; (with_reducible refine (laws_heldInt64S.calls kj54 _ _ t459 1 t471 _ ?s1 ?s2 A70.out).mono ?_); (case s1 => exact tC ((Kd.R_reads' HO_8.out).2.2)); (case s2 => exact (Kd.R_reads' HO_8.out).2.1); rintro e w' ⟨rfl, ⟨nd, rfl⟩⟩; refine ⟨_, rfl, ?_⟩))
     go_ret
     exact ⟨tE, tB⟩
    rw [if_neg c72] at H
    have c72b0 := beq_eq_false_iff_ne.mpr c72
    have c72b1 := bne_iff_ne.mpr c72
    (try (have c72b0z := c72b0; simp only [hl8_54] at c72b0z))
    (try (have c72b1z := c72b1; simp only [hl8_54] at c72b1z))
    obtain rfl := Option.some.inj H
    go_wp2_with (first | ((with_reducible refine gQc (f := 16) rfl ?_); refine goesL_ (some 95) rfl rfl Try.func16 (by kernel_rfl) rfl #[.slice Ao56 t459.length co56, .int .i64 1] rfl tL ?_; (with_reducible refine (laws_heldInt64S.calls kj54 _ _ t459 1 t471 _ ?s1 ?s2 A70.out).mono ?_); (case s1 => exact tC ((Kd.R_reads' HO_8.out).2.2)); (case s2 => exact (Kd.R_reads' HO_8.out).2.1); rintro e w' ⟨rfl, ⟨nd, rfl⟩⟩; refine ⟨_, rfl, ?_⟩))
    go_ret
    exact ⟨tE, tB⟩
end Go.Proofs.Ytbgbblgdbcjibaa.P
