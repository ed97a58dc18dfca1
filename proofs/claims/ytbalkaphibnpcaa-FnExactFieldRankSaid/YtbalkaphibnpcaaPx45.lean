/- Functions of the program and what they tell, as the printing program wrote it. -/
import Derived.Test.YtbalkaphibnpcaaPx0
import Derived.Test.YtbalkaphibnpcaaPx5
import Derived.Test.YtbalkaphibnpcaaPx6
import Derived.Test.YtbalkaphibnpcaaPx8
import Derived.Test.YtbalkaphibnpcaaPx27
namespace Go.Proofs.Ytbalkaphibnpcaa.P
open Go.Shelf Go.RowKit Go.Proofs.YtbalkaphibnpcaaW.PrintWords Go.Proofs.YtbalkaphibnpcaaW.PrintLast Go.Proofs.YtbalkaphibnpcaaW.PrintMore
attribute [local go_sem] max2_int min2_int max_two min_two max_three min_three max_four min_four
set_option linter.unusedVariables false
set_option linter.unusedSimpArgs false
set_option maxHeartbeats 8000000
set_option maxRecDepth 100000
def laws_FnExactFieldRank.j0 : Nat → List (List Int) → List (List Int) → Bool → Option (Bool)
  | 0, _, _, _ => none
  | k + 1, x2, x10, x44 => if x44 = true then (some false) else ((laws_toInt64SS.f k x2).bind fun t304 => ((laws_eqInt64SS.f k x10 t304).bind fun t307 => (if t307 = true then (some true) else (some false))))
def laws_FnExactFieldRank.f (k : Nat) (a0_0 : Int) (a0_1 : Int) (a1 : Int) (l2 : List (List Int)) : Option (Bool) := (laws_szInt64SS.f k l2 1048576).bind fun t289 => (if t289 < 0 then (some true) else ((laws_toField.f a0_0 a0_1).bind fun bt290 => ((laws_toInt64SS.f k l2).bind fun t292 => ((spec_FieldRank.f k bt290.1 bt290.2 a1 t292).bind fun bt295 => ((laws_toInt64SS.f k l2).bind fun t297 => ((laws_toField.f a0_0 a0_1).bind fun bt300 => ((impl_FieldRank.f k bt300.1 bt300.2 a1 t297).bind fun bt302 => (if bt302.1 = bt295.1 then (laws_FnExactFieldRank.j0 k l2 t297 (bt302.2 != bt295.2)) else (laws_FnExactFieldRank.j0 k l2 t297 true)))))))))
theorem laws_FnExactFieldRank.mono_l : ∀ k, (∀ y0 y1 y2, LeO (laws_FnExactFieldRank.j0 k y0 y1 y2) (laws_FnExactFieldRank.j0 (k + 1) y0 y1 y2))
 | 0 => fun _ _ _ r h => by simp [laws_FnExactFieldRank.j0] at h
 | k + 1 => by
  have ih0 := laws_FnExactFieldRank.mono_l k
  ·intro y0 y1 y2
   unfold laws_FnExactFieldRank.j0
   repeat' first
   | (with_reducible first | apply ih0 | apply impl_FieldRank.mono | apply laws_eqInt64SS.mono | apply laws_szInt64SS.mono | apply laws_toInt64SS.mono | apply spec_FieldRank.mono | exact LeO.refl _ | exact LeO.none _ | refine LeO.ite ?_ ?_ | refine LeO.bind ?_ (fun _ => ?_))
   | exact LeO.none _
   | refine LeO.ite ?_ ?_
   | refine LeO.bind ?_ (fun _ => ?_)
theorem laws_FnExactFieldRank.mono : ∀ a0 a1 a2 a3 k, LeO (laws_FnExactFieldRank.f k a0 a1 a2 a3) (laws_FnExactFieldRank.f (k + 1) a0 a1 a2 a3) := by
 intro a0 a1 a2 a3 k
 have ih0 := laws_FnExactFieldRank.mono_l k
 unfold laws_FnExactFieldRank.f
 repeat' first
  | (with_reducible first | apply ih0 | apply impl_FieldRank.mono | apply laws_eqInt64SS.mono | apply laws_szInt64SS.mono | apply laws_toInt64SS.mono | apply spec_FieldRank.mono | exact LeO.refl _ | exact LeO.none _ | refine LeO.ite ?_ ?_ | refine LeO.bind ?_ (fun _ => ?_))
  | exact LeO.none _
  | refine LeO.ite ?_ ?_
  | refine LeO.bind ?_ (fun _ => ?_)
theorem laws_FnExactFieldRank.calls (k : Nat) (a0_0 : Int) (a0_1 : Int) (a1 : Int) (A2 : Option Addr) (c2 : Nat) (l2 : List (List Int)) (r : Bool) (w : World) (hr2 : Kd.C (Kd.slice 2 (Kd.int .i64)) w A2 l2.length l2) (hc2 : l2.length ≤ c2) (h : laws_FnExactFieldRank.f k a0_0 a0_1 a1 l2 = some r) :
 Calls Try.prog 3 #[.agg #[.int .i64 a0_0, .int .i64 a0_1], .int .i64 a1, .slice A2 l2.length c2] w fun e w' => e = .returned (.bool r) ∧ Below w.heap.size w w' := by
 have hu23 := Try.underlying23
 have HR2 := Aq.mk hr2
 have HC2 := Aq.mk hc2
 clear hr2 hc2
 have HB := Aq.mk (Below.refl w.heap.size w)
 have H : ((laws_szInt64SS.f k l2 1048576).bind fun t289 => (if t289 < 0 then (some true) else ((laws_toField.f a0_0 a0_1).bind fun bt290 => ((laws_toInt64SS.f k l2).bind fun t292 => ((spec_FieldRank.f k bt290.1 bt290.2 a1 t292).bind fun bt295 => ((laws_toInt64SS.f k l2).bind fun t297 => ((laws_toField.f a0_0 a0_1).bind fun bt300 => ((impl_FieldRank.f k bt300.1 bt300.2 a1 t297).bind fun bt302 => (if bt302.1 = bt295.1 then (laws_FnExactFieldRank.j0 k l2 t297 (bt302.2 != bt295.2)) else (laws_FnExactFieldRank.j0 k l2 t297 true)))))))))) = some r := h
 clear h
 obtain ⟨t289, A4, H⟩ := qBd H
 by_cases c5 : t289 < 0
 ·rw [if_pos c5] at H
  have c5b0 := decide_eq_true c5
  clear c5
  obtain rfl := Option.some.inj H
  go_enter Try.func3, Try.ntmps3
  go_wp2_with (first | ((with_reducible refine gQd (N := 3) rfl ?_); refine xQe ?hg (N := 3) ?hd (cs := #[.int .i64 a0_0, .int .i64 a0_1]) (t := 23) ?hr ?_; (case hd => rfl); (case hg => rfl); (case hr => exact tH); intro gb288 hg w6 hbox hb; refine qM4 (bQT tB hb) hbox (tZ w hg) (tZ w hg) ?_; clear HB; intro HB BK288 GW288 GE288; clear hb hbox hg) | ((with_reducible refine gQc (f := 8) rfl ?_); refine goesL_ (some 15) rfl rfl Try.func8 (by kernel_rfl) rfl #[.slice A2 l2.length c2, .int .i64 1048576] rfl tL ?_; (with_reducible refine (laws_szInt64SS.calls k _ _ l2 1048576 t289 _ ?s1 ?s2 A4.out).mono ?_); (case s1 => exact tC ((Kd.C_below HR2.out HB.out))); (case s2 => exact HC2.out); rintro e w' ⟨rfl, ⟨nd, rfl⟩⟩; refine ⟨_, rfl, ?_⟩))
  go_ret
  exact ⟨tE, tB⟩
 rw [if_neg c5] at H
 have c5b0 := decide_eq_false c5
 clear c5
 obtain ⟨⟨t290, t291⟩, A7, H⟩ := qBd H
 (try dsimp only at H)
 obtain ⟨t292, A8, H⟩ := qBd H
 obtain ⟨⟨t295, t296⟩, A9, H⟩ := qBd H
 (try dsimp only at H)
 obtain ⟨t297, A10, H⟩ := qBd H
 obtain ⟨⟨t300, t301⟩, A11, H⟩ := qBd H
 (try dsimp only at H)
 obtain ⟨⟨t302, t303⟩, A12, H⟩ := qBd H
 (try dsimp only at H)
 have HC13 := Aq.mk H
 clear H
 go_enter Try.func3, Try.ntmps3
 go_upto_region 8 with (first | ((with_reducible refine gQd (N := 3) rfl ?_); refine xQe ?hg (N := 3) ?hd (cs := #[.int .i64 a0_0, .int .i64 a0_1]) (t := 23) ?hr ?_; (case hd => rfl); (case hg => rfl); (case hr => exact tH); intro gb288 hg w14 hbox hb; refine qM4 (bQT tB hb) hbox (tZ w hg) (tZ w hg) ?_; clear HB; intro HB BK288 GW288 GE288; clear hb hbox hg) | ((with_reducible refine gQc (f := 8) rfl ?_); refine goesL_ (some 15) rfl rfl Try.func8 (by kernel_rfl) rfl #[.slice A2 l2.length c2, .int .i64 1048576] rfl tL ?_; (with_reducible refine (laws_szInt64SS.calls k _ _ l2 1048576 t289 _ ?s1 ?s2 A4.out).mono ?_); (case s1 => exact tC ((Kd.C_below HR2.out HB.out))); (case s2 => exact HC2.out); rintro e w' ⟨rfl, ⟨nd, rfl⟩⟩; refine ⟨_, rfl, ?_⟩; have hcz15_0 : w14.cell? ⟨gb288, 0, none⟩ = some (.int .i64 a0_0) := (kQC BK288.out 0).trans rfl; have hcz15_1 : w14.cell? ⟨gb288, 1, none⟩ = some (.int .i64 a0_1) := (kQC BK288.out 1).trans rfl; have hfz15_0 := kQF BK288.out 0; have hfz15_1 := kQF BK288.out 1) | ((with_reducible refine gQc (f := 10) rfl ?_); refine goesL_ (some 20) rfl rfl Try.func10 (by kernel_rfl) rfl #[.agg #[.int .i64 a0_0, .int .i64 a0_1]] rfl tL ?_; (with_reducible refine (laws_toField.calls a0_0 a0_1 t290 t291 _ A7.out).mono ?_); rintro e w16 ⟨rfl, hb⟩; refine ⟨_, rfl, ?_⟩; refine qM2 (tQ BK288.out hb) (bQT tB hb) ?_; clear BK288 HB; intro BK288 HB; (try clear hb); (try clear hb2); (try clear hk); (try clear hi)) | ((with_reducible refine gQc (f := 11) rfl ?_); refine goesL_ (some 23) rfl rfl Try.func11 (by kernel_rfl) rfl #[.slice A2 l2.length c2] rfl tL ?_; (with_reducible refine (laws_toInt64SS.calls k _ _ l2 t292 _ ?s1 ?s2 A8.out).mono ?_); (case s1 => exact tC ((Kd.C_below HR2.out HB.out))); (case s2 => exact HC2.out); rintro e w17 ⟨v293, rfl, ho0, hb⟩; refine ⟨_, rfl, ?_⟩; refine qM3 (Kd.S_lower ho0 (bQZ tB)) (tQ BK288.out hb) (bQT tB hb) ?_; clear BK288 HB; intro HO294 BK288 HB; (try clear hb); (try clear hb2); (try clear hk); (try clear hi); (try clear ho0); obtain ⟨Ao18, co18, eo18⟩ := Kd.S_slice HO294.out; subst eo18) | ((with_reducible refine gQc (f := 9) rfl ?_); refine goesL_ (some 24) rfl rfl Try.func9 (by kernel_rfl) rfl #[.agg #[.int .i64 t290, .int .i64 t291], .int .i64 a1, .slice Ao18 t292.length co18] rfl tL ?_; (with_reducible refine (spec_FieldRank.calls k t290 t291 a1 _ _ t292 t295 t296 _ ?s1 ?s2 A9.out).mono ?_); (case s1 => exact tC ((Kd.S_reads' HO294.out).2.2)); (case s2 => exact (Kd.S_reads' HO294.out).2.1); rintro e w19 ⟨rfl, hb⟩; refine ⟨_, rfl, ?_⟩; refine qM3 (Kd.S_below (by (with_reducible repeat (first | apply Kd.S_alloc | apply Kd.S_drewN | apply Kd.S_drew)); exact HO294.out) hb) (tQ BK288.out hb) (bQT tB hb) ?_; clear HO294 BK288 HB; intro HO294 BK288 HB; (try clear hb); (try clear hb2); (try clear hk); (try clear hi)) | ((with_reducible refine gQc (f := 11) rfl ?_); refine goesL_ (some 28) rfl rfl Try.func11 (by kernel_rfl) rfl #[.slice A2 l2.length c2] rfl tL ?_; (with_reducible refine (laws_toInt64SS.calls k _ _ l2 t297 _ ?s1 ?s2 A10.out).mono ?_); (case s1 => exact tC ((Kd.C_below HR2.out HB.out))); (case s2 => exact HC2.out); rintro e w20 ⟨v298, rfl, ho0, hb⟩; refine ⟨_, rfl, ?_⟩; refine qM4 (Kd.S_elder' (by (with_reducible repeat (first | apply Kd.S_alloc | apply Kd.S_drewN | apply Kd.S_drew)); exact HO294.out) (Kd.S_base ho0) hb) (Kd.S_lower (Kd.S_new' ho0 (Kd.S_lt (by (with_reducible repeat (first | apply Kd.S_alloc | apply Kd.S_drewN | apply Kd.S_drew)); exact HO294.out))) (bQZ tB)) (tQ BK288.out hb) (bQT tB hb) ?_; clear HO294 BK288 HB; intro HO294 HO299 BK288 HB; (try clear hb); (try clear hb2); (try clear hk); (try clear hi); (try clear ho0); have hcz21_0 : w20.cell? ⟨gb288, 0, none⟩ = some (.int .i64 a0_0) := (kQC BK288.out 0).trans rfl; have hcz21_1 : w20.cell? ⟨gb288, 1, none⟩ = some (.int .i64 a0_1) := (kQC BK288.out 1).trans rfl; have hfz21_0 := kQF BK288.out 0; have hfz21_1 := kQF BK288.out 1) | ((with_reducible refine gQc (f := 10) rfl ?_); refine goesL_ (some 31) rfl rfl Try.func10 (by kernel_rfl) rfl #[.agg #[.int .i64 a0_0, .int .i64 a0_1]] rfl tL ?_; (with_reducible refine (laws_toField.calls a0_0 a0_1 t300 t301 _ A11.out).mono ?_); rintro e w22 ⟨rfl, hb⟩; refine ⟨_, rfl, ?_⟩; refine qM4 (Kd.S_below (by (with_reducible repeat (first | apply Kd.S_alloc | apply Kd.S_drewN | apply Kd.S_drew)); exact HO294.out) hb) (Kd.S_below (by (with_reducible repeat (first | apply Kd.S_alloc | apply Kd.S_drewN | apply Kd.S_drew)); exact HO299.out) hb) (tQ BK288.out hb) (bQT tB hb) ?_; clear HO294 HO299 BK288 HB; intro HO294 HO299 BK288 HB; (try clear hb); (try clear hb2); (try clear hk); (try clear hi); obtain ⟨Ao23, co23, eo23⟩ := Kd.S_slice HO299.out; subst eo23) | ((with_reducible refine gQc (f := 12) rfl ?_); refine goesL_ (some 34) rfl rfl Try.func12 (by kernel_rfl) rfl #[.agg #[.int .i64 t300, .int .i64 t301], .int .i64 a1, .slice Ao23 t297.length co23] rfl tL ?_; (with_reducible refine (impl_FieldRank.calls k t300 t301 a1 _ _ t297 t302 t303 _ ?s1 ?s2 A12.out).mono ?_); (case s1 => exact tC ((Kd.S_reads' HO299.out).2.2)); (case s2 => exact (Kd.S_reads' HO299.out).2.1); rintro e w24 ⟨rfl, hb⟩; refine ⟨_, rfl, ?_⟩; refine qM4 (Kd.S_below (by (with_reducible repeat (first | apply Kd.S_alloc | apply Kd.S_drewN | apply Kd.S_drew)); exact HO294.out) hb) (Kd.S_below (by (with_reducible repeat (first | apply Kd.S_alloc | apply Kd.S_drewN | apply Kd.S_drew)); exact HO299.out) hb) (tQ BK288.out hb) (bQT tB hb) ?_; clear HO294 HO299 BK288 HB; intro HO294 HO299 BK288 HB; (try clear hb); (try clear hb2); (try clear hk); (try clear hi)))
 (try simp only [Act.put, qSa, qSb, qSc])
 go_cut [44] (fun v44 wc => ∃ (kq : Nat) (x44_12 : Bool), v44 = .bool x44_12 ∧ Aq (laws_FnExactFieldRank.j0 kq l2 t297 x44_12 = some r) ∧ Aq (kq ≤ k) ∧ Aq (Kd.S (Kd.slice 2 (Kd.int .i64)) 38 wc w.heap.size (fun _ => True) (.slice Ao23 t297.length co23) t297) ∧ Aq (wc.heap[gb288]? = some (.cells #[.int .i64 a0_0, .int .i64 a0_1] 23 (0, 0))) ∧ Aq (Below w.heap.size w wc))
 case first =>
  have H := HC13.out
  clear HC13
  by_cases c25 : t302 = t295
  ·rw [if_pos c25] at H
   have c25b0 := beq_iff_eq.mpr c25
   have c25b1 := bne_eq_false_iff_eq.mpr c25
   clear c25
   (first | rw [c25b0] | (simp only [i64_w, i32_w]; rw [c25b0]) | skip)
   replace H' := Aq.mk H
   clear H
   go_wp2
   go_meet
   case rel => exact ⟨_, ((t303 != t296)), tS, H', ⟨tO⟩, ⟨by (with_reducible repeat (first | apply Kd.S_alloc | apply Kd.S_drewN | apply Kd.S_drew)); exact Kd.S_mono HO299.out (fun _ hk => trivial)⟩, ⟨tG BK288.out⟩, ⟨tB⟩⟩
  rw [if_neg c25] at H
  have c25b0 := beq_eq_false_iff_ne.mpr c25
  have c25b1 := bne_iff_ne.mpr c25
  (first | rw [c25b0] | (simp only [i64_w, i32_w]; rw [c25b0]) | skip)
  replace H' := Aq.mk H
  clear H
  go_wp2
  go_meet
  case rel => exact ⟨_, (true), tS, H', ⟨tO⟩, ⟨by (with_reducible repeat (first | apply Kd.S_alloc | apply Kd.S_drewN | apply Kd.S_drew)); exact Kd.S_mono HO299.out (fun _ hk => trivial)⟩, ⟨tG BK288.out⟩, ⟨tB⟩⟩
 clear HC13
 try clear c2
 try clear c5
 try clear c5b0
 try clear c25
 try clear c25b0
 try clear c25b1
 try clear hcz15_0
 try clear hcz15_1
 try clear hcz21_0
 try clear hcz21_1
 try clear hfz15_0
 try clear hfz15_1
 try clear hfz21_0
 try clear hfz21_1
 obtain ⟨kq, x44_12, rfl, HA, HJ12, HO_10, BK288, HB⟩ := hcut
 cases kq with
 | zero => exact absurd HA.out (by simp [laws_FnExactFieldRank.j0])
 | succ kj12 =>
  have H := HA.out
  clear HA
  simp only [laws_FnExactFieldRank.j0] at H
  by_cases c26 : x44_12 = true
  ·subst c26
   rw [if_pos rfl] at H
   obtain rfl := Option.some.inj H
   go_wp2
   go_ret
   exact ⟨tE, tB⟩
  replace c26 := Bool.eq_false_iff.mpr c26
  subst c26
  rw [if_neg (show ¬ (false = true) by decide)] at H
  obtain ⟨t304, A27, H⟩ := qBd H
  obtain ⟨t307, A28, H⟩ := qBd H
  by_cases c29 : t307 = true
  ·subst c29
   rw [if_pos rfl] at H
   obtain rfl := Option.some.inj H
   go_wp2_with (first | ((with_reducible refine gQc (f := 11) rfl ?_); refine goesL_ (some 47) rfl rfl Try.func11 (by kernel_rfl) rfl #[.slice A2 l2.length c2] rfl tL ?_; (with_reducible refine (laws_toInt64SS.calls kj12 _ _ l2 t304 _ ?s1 ?s2 A27.out).mono ?_); (case s1 => exact tC ((Kd.C_below HR2.out HB.out))); (case s2 => exact HC2.out); rintro e w30 ⟨v305, rfl, ho0, hb⟩; refine ⟨_, rfl, ?_⟩; refine qM4 (Kd.S_elder' (by (with_reducible repeat (first | apply Kd.S_alloc | apply Kd.S_drewN | apply Kd.S_drew)); exact HO_10.out) (Kd.S_base ho0) hb) (Kd.S_lower (Kd.S_new' ho0 (Kd.S_lt (by (with_reducible repeat (first | apply Kd.S_alloc | apply Kd.S_drewN | apply Kd.S_drew)); exact HO_10.out))) (bQZ tB)) (tQ BK288.out hb) (bQT tB hb) ?_; clear HO_10 BK288 HB; intro HO_10 HO306 BK288 HB; (try clear hb); (try clear hb2); (try clear hk); (try clear hi); (try clear ho0); obtain ⟨Ao31, co31, eo31⟩ := Kd.S_slice HO306.out; subst eo31) | ((with_reducible refine gQc (f := 13) rfl ?_); refine goesL_ (some 48) rfl rfl Try.func13 (by kernel_rfl) rfl #[.slice Ao23 t297.length co23, .slice Ao31 t304.length co31] rfl tL ?_; (with_reducible refine (laws_eqInt64SS.calls kj12 _ _ t297 _ _ t304 true _ ?s1 ?s2 ?s3 ?s4 A28.out).mono ?_); (case s1 => exact tC ((Kd.S_reads' HO_10.out).2.2)); (case s2 => exact (Kd.S_reads' HO_10.out).2.1); (case s3 => exact tC ((Kd.S_reads' HO306.out).2.2)); (case s4 => exact (Kd.S_reads' HO306.out).2.1); rintro e w' ⟨rfl, ⟨nd, rfl⟩⟩; refine ⟨_, rfl, ?_⟩))
   go_ret
   exact ⟨tE, tB⟩
  replace c29 := Bool.eq_false_iff.mpr c29
  subst c29
  rw [if_neg (show ¬ (false = true) by decide)] at H
  obtain rfl := Option.some.inj H
  go_wp2_with (first | ((with_reducible refine gQc (f := 11) rfl ?_); refine goesL_ (some 47) rfl rfl Try.func11 (by kernel_rfl) rfl #[.slice A2 l2.length c2] rfl tL ?_; (with_reducible refine (laws_toInt64SS.calls kj12 _ _ l2 t304 _ ?s1 ?s2 A27.out).mono ?_); (case s1 => exact tC ((Kd.C_below HR2.out HB.out))); (case s2 => exact HC2.out); rintro e w32 ⟨v305, rfl, ho0, hb⟩; refine ⟨_, rfl, ?_⟩; refine qM4 (Kd.S_elder' (by (with_reducible repeat (first | apply Kd.S_alloc | apply Kd.S_drewN | apply Kd.S_drew)); exact HO_10.out) (Kd.S_base ho0) hb) (Kd.S_lower (Kd.S_new' ho0 (Kd.S_lt (by (with_reducible repeat (first | apply Kd.S_alloc | apply Kd.S_drewN | apply Kd.S_drew)); exact HO_10.out))) (bQZ tB)) (tQ BK288.out hb) (bQT tB hb) ?_; clear HO_10 BK288 HB; intro HO_10 HO306 BK288 HB; (try clear hb); (try clear hb2); (try clear hk); (try clear hi); (try clear ho0); obtain ⟨Ao33, co33, eo33⟩ := Kd.S_slice HO306.out; subst eo33) | ((with_reducible refine gQc (f := 13) rfl ?_); refine goesL_ (some 48) rfl rfl Try.func13 (by kernel_rfl) rfl #[.slice Ao23 t297.length co23, .slice Ao33 t304.length co33] rfl tL ?_; (with_reducible refine (laws_eqInt64SS.calls kj12 _ _ t297 _ _ t304 false _ ?s1 ?s2 ?s3 ?s4 A28.out).mono ?_); (case s1 => exact tC ((Kd.S_reads' HO_10.out).2.2)); (case s2 => exact (Kd.S_reads' HO_10.out).2.1); (case s3 => exact tC ((Kd.S_reads' HO306.out).2.2)); (case s4 => exact (Kd.S_reads' HO306.out).2.1); rintro e w' ⟨rfl, ⟨nd, rfl⟩⟩; refine ⟨_, rfl, ?_⟩))
  go_ret
  exact ⟨tE, tB⟩
end Go.Proofs.Ytbalkaphibnpcaa.P
