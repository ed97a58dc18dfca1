/- Functions of the program and what they tell, as the printing program wrote it. -/
import Derived.Test.YtbgbblgdbcjibaaPx0
import Derived.Test.YtbgbblgdbcjibaaPx1
import Derived.Test.YtbgbblgdbcjibaaPx5
import Derived.Test.YtbgbblgdbcjibaaPx8
import Derived.Test.YtbgbblgdbcjibaaPx18
import Derived.Test.YtbgbblgdbcjibaaPx19
namespace Go.Proofs.Ytbgbblgdbcjibaa.P
open Go.Shelf Go.RowKit Go.Proofs.YtbgbblgdbcjibaaW.PrintWords Go.Proofs.YtbgbblgdbcjibaaW.PrintLast Go.Proofs.YtbgbblgdbcjibaaW.PrintMore
attribute [local go_sem] max2_int min2_int max_two min_two max_three min_three max_four min_four
set_option linter.unusedVariables false
set_option linter.unusedSimpArgs false
set_option maxHeartbeats 8000000
set_option maxRecDepth 100000
def laws_FnExactCoordinatesIn.j0 : Nat → List Int → List Int → Bool → Option (Bool)
  | 0, _, _, _ => none
  | k + 1, x1, x9, x41 => if x41 = true then (some false) else ((laws_toInt64S.f k x1).bind fun t327 => ((laws_eqInt64S.f k x9 t327).bind fun t330 => (if t330 = true then (some true) else (some false))))
def laws_FnExactCoordinatesIn.f (k : Nat) (a0_0 : Int) (a0_1 : Int) (l1 : List Int) (a2 : Int) : Option (Bool) := if (l1.length : Int) > 1048576 then (some true) else ((laws_toField.f a0_0 a0_1).bind fun bt313 => ((laws_toInt64S.f k l1).bind fun t315 => ((spec_CoordinatesIn.f k bt313.1 bt313.2 t315 a2).bind fun bt318 => ((laws_toInt64S.f k l1).bind fun t320 => ((laws_toField.f a0_0 a0_1).bind fun bt323 => ((impl_CoordinatesIn.f k bt323.1 bt323.2 t320 a2).bind fun bt325 => (if bt325.1 = bt318.1 then (laws_FnExactCoordinatesIn.j0 k l1 t320 (bt325.2 != bt318.2)) else (laws_FnExactCoordinatesIn.j0 k l1 t320 true))))))))
theorem laws_FnExactCoordinatesIn.mono_l : ∀ k, (∀ y0 y1 y2, LeO (laws_FnExactCoordinatesIn.j0 k y0 y1 y2) (laws_FnExactCoordinatesIn.j0 (k + 1) y0 y1 y2))
 | 0 => fun _ _ _ r h => by simp [laws_FnExactCoordinatesIn.j0] at h
 | k + 1 => by
  have ih0 := laws_FnExactCoordinatesIn.mono_l k
  ·intro y0 y1 y2
   unfold laws_FnExactCoordinatesIn.j0
   repeat' first
   | (with_reducible first | apply ih0 | apply impl_CoordinatesIn.mono | apply laws_eqInt64S.mono | apply laws_toInt64S.mono | apply spec_CoordinatesIn.mono | exact LeO.refl _ | exact LeO.none _ | refine LeO.ite ?_ ?_ | refine LeO.bind ?_ (fun _ => ?_))
   | exact LeO.none _
   | refine LeO.ite ?_ ?_
   | refine LeO.bind ?_ (fun _ => ?_)
theorem laws_FnExactCoordinatesIn.mono : ∀ a0 a1 a2 a3 k, LeO (laws_FnExactCoordinatesIn.f k a0 a1 a2 a3) (laws_FnExactCoordinatesIn.f (k + 1) a0 a1 a2 a3) := by
 intro a0 a1 a2 a3 k
 have ih0 := laws_FnExactCoordinatesIn.mono_l k
 unfold laws_FnExactCoordinatesIn.f
 repeat' first
  | (with_reducible first | apply ih0 | apply impl_CoordinatesIn.mono | apply laws_eqInt64S.mono | apply laws_toInt64S.mono | apply spec_CoordinatesIn.mono | exact LeO.refl _ | exact LeO.none _ | refine LeO.ite ?_ ?_ | refine LeO.bind ?_ (fun _ => ?_))
  | exact LeO.none _
  | refine LeO.ite ?_ ?_
  | refine LeO.bind ?_ (fun _ => ?_)
theorem laws_FnExactCoordinatesIn.calls (k : Nat) (a0_0 : Int) (a0_1 : Int) (A1 : Option Addr) (c1 : Nat) (l1 : List Int) (a2 : Int) (r : Bool) (w : World) (hr1 : Kd.C (Kd.int .i64) w A1 l1.length l1) (hc1 : l1.length ≤ c1) (h : laws_FnExactCoordinatesIn.f k a0_0 a0_1 l1 a2 = some r) :
 Calls Try.prog 5 #[.agg #[.int .i64 a0_0, .int .i64 a0_1], .slice A1 l1.length c1, .int .i64 a2] w fun e w' => e = .returned (.bool r) ∧ Below w.heap.size w w' := by
 have hu23 := Try.underlying23
 have HR1 := Aq.mk hr1
 have HC1 := Aq.mk hc1
 clear hr1 hc1
 have HB := Aq.mk (Below.refl w.heap.size w)
 have H : (if (l1.length : Int) > 1048576 then (some true) else ((laws_toField.f a0_0 a0_1).bind fun bt313 => ((laws_toInt64S.f k l1).bind fun t315 => ((spec_CoordinatesIn.f k bt313.1 bt313.2 t315 a2).bind fun bt318 => ((laws_toInt64S.f k l1).bind fun t320 => ((laws_toField.f a0_0 a0_1).bind fun bt323 => ((impl_CoordinatesIn.f k bt323.1 bt323.2 t320 a2).bind fun bt325 => (if bt325.1 = bt318.1 then (laws_FnExactCoordinatesIn.j0 k l1 t320 (bt325.2 != bt318.2)) else (laws_FnExactCoordinatesIn.j0 k l1 t320 true))))))))) = some r := h
 clear h
 by_cases c4 : (l1.length : Int) > 1048576
 ·rw [if_pos c4] at H
  have c4b0 := decide_eq_true c4
  have c4b1 : decide (1048576 < l1.length) = true := decide_eq_true (by omega)
  clear c4
  obtain rfl := Option.some.inj H
  go_enter Try.func5, Try.ntmps5
  go_wp2_with (first | ((with_reducible refine gQd (N := 3) rfl ?_); refine xQe ?hg (N := 3) ?hd (cs := #[.int .i64 a0_0, .int .i64 a0_1]) (t := 23) ?hr ?_; (case hd => rfl); (case hg => rfl); (case hr => exact tH); intro gb312 hg w5 hbox hb; refine qM4 (bQT tB hb) hbox (tZ w hg) (tZ w hg) ?_; clear HB; intro HB BK312 GW312 GE312; clear hb hbox hg))
  go_ret
  exact ⟨tE, tB⟩
 rw [if_neg c4] at H
 have c4b0 := decide_eq_false c4
 have c4b1 : decide (1048576 < l1.length) = false := decide_eq_false (by omega)
 clear c4
 obtain ⟨⟨t313, t314⟩, A6, H⟩ := qBd H
 (try dsimp only at H)
 obtain ⟨t315, A7, H⟩ := qBd H
 obtain ⟨⟨t318, t319⟩, A8, H⟩ := qBd H
 (try dsimp only at H)
 obtain ⟨t320, A9, H⟩ := qBd H
 obtain ⟨⟨t323, t324⟩, A10, H⟩ := qBd H
 (try dsimp only at H)
 obtain ⟨⟨t325, t326⟩, A11, H⟩ := qBd H
 (try dsimp only at H)
 have HC12 := Aq.mk H
 clear H
 go_enter Try.func5, Try.ntmps5
 go_upto_region 6 with (first | ((with_reducible refine gQd (N := 3) rfl ?_); refine xQe ?hg (N := 3) ?hd (cs := #[.int .i64 a0_0, .int .i64 a0_1]) (t := 23) ?hr ?_; (case hd => rfl); (case hg => rfl); (case hr => exact tH); intro gb312 hg w13 hbox hb; refine qM4 (bQT tB hb) hbox (tZ w hg) (tZ w hg) ?_; clear HB; intro HB BK312 GW312 GE312; clear hb hbox hg; have hcz14_0 : w13.cell? ⟨gb312, 0, none⟩ = some (.int .i64 a0_0) := (kQC BK312.out 0).trans rfl; have hcz14_1 : w13.cell? ⟨gb312, 1, none⟩ = some (.int .i64 a0_1) := (kQC BK312.out 1).trans rfl; have hfz14_0 := kQF BK312.out 0; have hfz14_1 := kQF BK312.out 1) | ((with_reducible refine gQc (f := 10) rfl ?_); refine goesL_ (some 17) rfl rfl Try.func10 (by kernel_rfl) rfl #[.agg #[.int .i64 a0_0, .int .i64 a0_1]] rfl tL ?_; (with_reducible refine (laws_toField.calls a0_0 a0_1 t313 t314 _ A6.out).mono ?_); rintro e w15 ⟨rfl, hb⟩; refine ⟨_, rfl, ?_⟩; refine qM2 (tQ BK312.out hb) (bQT tB hb) ?_; clear BK312 HB; intro BK312 HB; (try clear hb); (try clear hb2); (try clear hk); (try clear hi)) | ((with_reducible refine gQc (f := 18) rfl ?_); refine goesL_ (some 19) rfl rfl Try.func18 (by kernel_rfl) rfl #[.slice A1 l1.length c1] rfl tL ?_; (with_reducible refine (laws_toInt64S.calls k _ _ l1 t315 _ ?s1 ?s2 A7.out).mono ?_); (case s1 => exact tC ((Kd.C_below HR1.out HB.out))); (case s2 => exact HC1.out); rintro e w16 ⟨v316, rfl, ho0, hb⟩; refine ⟨_, rfl, ?_⟩; refine qM3 (Kd.R_lower ho0 (bQZ tB)) (tQ BK312.out hb) (bQT tB hb) ?_; clear BK312 HB; intro HO317 BK312 HB; (try clear hb); (try clear hb2); (try clear hk); (try clear hi); (try clear ho0); obtain ⟨Ao17, co17, eo17⟩ := Kd.R_slice HO317.out; subst eo17) | ((with_reducible refine gQc (f := 17) rfl ?_); refine goesL_ (some 21) rfl rfl Try.func17 (by kernel_rfl) rfl #[.agg #[.int .i64 t313, .int .i64 t314], .slice Ao17 t315.length co17, .int .i64 a2] rfl tL ?_; (with_reducible refine (spec_CoordinatesIn.calls k t313 t314 _ _ t315 a2 t318 t319 _ ?s1 ?s2 A8.out).mono ?_); (case s1 => exact tC ((Kd.R_reads' HO317.out).2.2)); (case s2 => exact (Kd.R_reads' HO317.out).2.1); rintro e w18 ⟨rfl, hb⟩; refine ⟨_, rfl, ?_⟩; refine qM3 (Kd.R_below (tR HO317.out) hb) (tQ BK312.out hb) (bQT tB hb) ?_; clear HO317 BK312 HB; intro HO317 BK312 HB; (try clear hb); (try clear hb2); (try clear hk); (try clear hi)) | ((with_reducible refine gQc (f := 18) rfl ?_); refine goesL_ (some 25) rfl rfl Try.func18 (by kernel_rfl) rfl #[.slice A1 l1.length c1] rfl tL ?_; (with_reducible refine (laws_toInt64S.calls k _ _ l1 t320 _ ?s1 ?s2 A9.out).mono ?_); (case s1 => exact tC ((Kd.C_below HR1.out HB.out))); (case s2 => exact HC1.out); rintro e w19 ⟨v321, rfl, ho0, hb⟩; refine ⟨_, rfl, ?_⟩; refine qM4 (Kd.R_elder' (tR HO317.out) (Kd.R_base ho0) hb) (Kd.R_lower (Kd.R_new' ho0 (Kd.R_lt (tR HO317.out))) (bQZ tB)) (tQ BK312.out hb) (bQT tB hb) ?_; clear HO317 BK312 HB; intro HO317 HO322 BK312 HB; (try clear hb); (try clear hb2); (try clear hk); (try clear hi); (try clear ho0); have hcz20_0 : w19.cell? ⟨gb312, 0, none⟩ = some (.int .i64 a0_0) := (kQC BK312.out 0).trans rfl; have hcz20_1 : w19.cell? ⟨gb312, 1, none⟩ = some (.int .i64 a0_1) := (kQC BK312.out 1).trans rfl; have hfz20_0 := kQF BK312.out 0; have hfz20_1 := kQF BK312.out 1) | ((with_reducible refine gQc (f := 10) rfl ?_); refine goesL_ (some 28) rfl rfl Try.func10 (by kernel_rfl) rfl #[.agg #[.int .i64 a0_0, .int .i64 a0_1]] rfl tL ?_; (with_reducible refine (laws_toField.calls a0_0 a0_1 t323 t324 _ A10.out).mono ?_); rintro e w21 ⟨rfl, hb⟩; refine ⟨_, rfl, ?_⟩; refine qM4 (Kd.R_below (tR HO317.out) hb) (Kd.R_below (tR HO322.out) hb) (tQ BK312.out hb) (bQT tB hb) ?_; clear HO317 HO322 BK312 HB; intro HO317 HO322 BK312 HB; (try clear hb); (try clear hb2); (try clear hk); (try clear hi); obtain ⟨Ao22, co22, eo22⟩ := Kd.R_slice HO322.out; subst eo22) | ((with_reducible refine gQc (f := 19) rfl ?_); refine goesL_ (some 31) rfl rfl Try.func19 (by kernel_rfl) rfl #[.agg #[.int .i64 t323, .int .i64 t324], .slice Ao22 t320.length co22, .int .i64 a2] rfl tL ?_; (with_reducible refine (impl_CoordinatesIn.calls k t323 t324 _ _ t320 a2 t325 t326 _ ?s1 ?s2 A11.out).mono ?_); (case s1 => exact tC ((Kd.R_reads' HO322.out).2.2)); (case s2 => exact (Kd.R_reads' HO322.out).2.1); rintro e w23 ⟨rfl, hb⟩; refine ⟨_, rfl, ?_⟩; refine qM4 (Kd.R_below (tR HO317.out) hb) (Kd.R_below (tR HO322.out) hb) (tQ BK312.out hb) (bQT tB hb) ?_; clear HO317 HO322 BK312 HB; intro HO317 HO322 BK312 HB; (try clear hb); (try clear hb2); (try clear hk); (try clear hi)))
 (try simp only [Act.put, qSa, qSb, qSc])
 go_cut [41] (fun v41 wc => ∃ (kq : Nat) (x41_11 : Bool), v41 = .bool x41_11 ∧ Aq (laws_FnExactCoordinatesIn.j0 kq l1 t320 x41_11 = some r) ∧ Aq (kq ≤ k) ∧ Aq (Kd.R (Kd.int .i64) 2 wc w.heap.size (fun _ => True) (.slice Ao22 t320.length co22) t320) ∧ Aq (wc.heap[gb312]? = some (.cells #[.int .i64 a0_0, .int .i64 a0_1] 23 (0, 0))) ∧ Aq (Below w.heap.size w wc))
 case first =>
  have H := HC12.out
  clear HC12
  by_cases c24 : t325 = t318
  ·rw [if_pos c24] at H
   have c24b0 := beq_iff_eq.mpr c24
   have c24b1 := bne_eq_false_iff_eq.mpr c24
   clear c24
   (first | rw [c24b0] | (simp only [i64_w, i32_w]; rw [c24b0]) | skip)
   replace H' := Aq.mk H
   clear H
   go_wp2
   go_meet
   case rel => exact ⟨_, ((t326 != t319)), tS, H', ⟨tO⟩, ⟨by (with_reducible repeat (first | apply Kd.RqA | apply Kd.RqN | apply Kd.RqD)); exact Kd.R_mono HO322.out (fun _ hk => trivial)⟩, ⟨tG BK312.out⟩, ⟨tB⟩⟩
  rw [if_neg c24] at H
  have c24b0 := beq_eq_false_iff_ne.mpr c24
  have c24b1 := bne_iff_ne.mpr c24
  (first | rw [c24b0] | (simp only [i64_w, i32_w]; rw [c24b0]) | skip)
  replace H' := Aq.mk H
  clear H
  go_wp2
  go_meet
  case rel => exact ⟨_, (true), tS, H', ⟨tO⟩, ⟨by (with_reducible repeat (first | apply Kd.RqA | apply Kd.RqN | apply Kd.RqD)); exact Kd.R_mono HO322.out (fun _ hk => trivial)⟩, ⟨tG BK312.out⟩, ⟨tB⟩⟩
 clear HC12
 try clear c1
 try clear c4
 try clear c4b0
 try clear c4b1
 try clear c24
 try clear c24b0
 try clear c24b1
 try clear hcz14_0
 try clear hcz14_1
 try clear hcz20_0
 try clear hcz20_1
 try clear hfz14_0
 try clear hfz14_1
 try clear hfz20_0
 try clear hfz20_1
 obtain ⟨kq, x41_11, rfl, HA, HJ11, HO_9, BK312, HB⟩ := hcut
 cases kq with
 | zero => exact absurd HA.out (by simp [laws_FnExactCoordinatesIn.j0])
 | succ kj11 =>
  have H := HA.out
  clear HA
  simp only [laws_FnExactCoordinatesIn.j0] at H
  by_cases c25 : x41_11 = true
  ·subst c25
   rw [if_pos rfl] at H
   obtain rfl := Option.some.inj H
   go_wp2
   go_ret
   exact ⟨tE, tB⟩
  replace c25 := Bool.eq_false_iff.mpr c25
  subst c25
  rw [if_neg (show ¬ (false = true) by decide)] at H
  obtain ⟨t327, A26, H⟩ := qBd H
  obtain ⟨t330, A27, H⟩ := qBd H
  by_cases c28 : t330 = true
  ·subst c28
   rw [if_pos rfl] at H
   obtain rfl := Option.some.inj H
   go_wp2_with (first | ((with_reducible refine gQc (f := 18) rfl ?_); refine goesL_ (some 44) rfl rfl Try.func18 (by kernel_rfl) rfl #[.slice A1 l1.length c1] rfl tL ?_; (with_reducible refine (laws_toInt64S.calls kj11 _ _ l1 t327 _ ?s1 ?s2 A26.out).mono ?_); (case s1 => exact tC ((Kd.C_below HR1.out HB.out))); (case s2 => exact HC1.out); rintro e w29 ⟨v328, rfl, ho0, hb⟩; refine ⟨_, rfl, ?_⟩; refine qM4 (Kd.R_elder' (tR HO_9.out) (Kd.R_base ho0) hb) (Kd.R_lower (Kd.R_new' ho0 (Kd.R_lt (tR HO_9.out))) (bQZ tB)) (tQ BK312.out hb) (bQT tB hb) ?_; clear HO_9 BK312 HB; intro HO_9 HO329 BK312 HB; (try clear hb); (try clear hb2); (try clear hk); (try clear hi); (try clear ho0); obtain ⟨Ao30, co30, eo30⟩ := Kd.R_slice HO329.out; subst eo30) | ((with_reducible refine gQc (f := 14) rfl ?_); refine goesL_ (some 45) rfl rfl Try.func14 (by kernel_rfl) rfl #[.slice Ao22 t320.length co22, .slice Ao30 t327.length co30] rfl tL ?_; (with_reducible refine (laws_eqInt64S.calls kj11 _ _ t320 _ _ t327 true _ ?s1 ?s2 ?s3 ?s4 A27.out).mono ?_); (case s1 => exact tC ((Kd.R_reads' HO_9.out).2.2)); (case s2 => exact (Kd.R_reads' HO_9.out).2.1); (case s3 => exact tC ((Kd.R_reads' HO329.out).2.2)); (case s4 => exact (Kd.R_reads' HO329.out).2.1); rintro e w' ⟨rfl, ⟨nd, rfl⟩⟩; refine ⟨_, rfl, ?_⟩))
   go_ret
   exact ⟨tE, tB⟩
  replace c28 := Bool.eq_false_iff.mpr c28
  subst c28
  rw [if_neg (show ¬ (false = true) by decide)] at H
  obtain rfl := Option.some.inj H
  go_wp2_with (first | ((with_reducible refine gQc (f := 18) rfl ?_); refine goesL_ (some 44) rfl rfl Try.func18 (by kernel_rfl) rfl #[.slice A1 l1.length c1] rfl tL ?_; (with_reducible refine (laws_toInt64S.calls kj11 _ _ l1 t327 _ ?s1 ?s2 A26.out).mono ?_); (case s1 => exact tC ((Kd.C_below HR1.out HB.out))); (case s2 => exact HC1.out); rintro e w31 ⟨v328, rfl, ho0, hb⟩; refine ⟨_, rfl, ?_⟩; refine qM4 (Kd.R_elder' (tR HO_9.out) (Kd.R_base ho0) hb) (Kd.R_lower (Kd.R_new' ho0 (Kd.R_lt (tR HO_9.out))) (bQZ tB)) (tQ BK312.out hb) (bQT tB hb) ?_; clear HO_9 BK312 HB; intro HO_9 HO329 BK312 HB; (try clear hb); (try clear hb2); (try clear hk); (try clear hi); (try clear ho0); obtain ⟨Ao32, co32, eo32⟩ := Kd.R_slice HO329.out; subst eo32) | ((with_reducible refine gQc (f := 14) rfl ?_); refine goesL_ (some 45) rfl rfl Try.func14 (by kernel_rfl) rfl #[.slice Ao22 t320.length co22, .slice Ao32 t327.length co32] rfl tL ?_; (with_reducible refine (laws_eqInt64S.calls kj11 _ _ t320 _ _ t327 false _ ?s1 ?s2 ?s3 ?s4 A27.out).mono ?_); (case s1 => exact tC ((Kd.R_reads' HO_9.out).2.2)); (case s2 => exact (Kd.R_reads' HO_9.out).2.1); (case s3 => exact tC ((Kd.R_reads' HO329.out).2.2)); (case s4 => exact (Kd.R_reads' HO329.out).2.1); rintro e w' ⟨rfl, ⟨nd, rfl⟩⟩; refine ⟨_, rfl, ?_⟩))
  go_ret
  exact ⟨tE, tB⟩
end Go.Proofs.Ytbgbblgdbcjibaa.P
