/- Functions of the program and what they tell, as the printing program wrote it. -/
import Derived.Test.YtbgbblgdbcjibaaPx0
import Derived.Test.YtbgbblgdbcjibaaPx1
import Derived.Test.YtbgbblgdbcjibaaPx14
import Derived.Test.YtbgbblgdbcjibaaPx15
namespace Go.Proofs.Ytbgbblgdbcjibaa.P
open Go.Shelf Go.RowKit Go.Proofs.YtbgbblgdbcjibaaW.PrintWords Go.Proofs.YtbgbblgdbcjibaaW.PrintLast Go.Proofs.YtbgbblgdbcjibaaW.PrintMore
attribute [local go_sem] max2_int min2_int max_two min_two max_three min_three max_four min_four
set_option linter.unusedVariables false
set_option linter.unusedSimpArgs false
set_option maxHeartbeats 8000000
set_option maxRecDepth 100000
def laws_FnExactFirstNormal.f (k : Nat) (a0_0 : Int) (a0_1 : Int) : Option (Bool) := (laws_toField.f a0_0 a0_1).bind fun bt180 => ((spec_FirstNormal.f k bt180.1 bt180.2).bind fun bt182 => ((laws_toField.f a0_0 a0_1).bind fun bt184 => ((impl_FirstNormal.f k bt184.1 bt184.2).bind fun bt186 => (if bt186.1 = bt182.1 then (if bt186.2 = bt182.2 then (some true) else (some false)) else (some false)))))
theorem laws_FnExactFirstNormal.mono : ∀ a0 a1 k, LeO (laws_FnExactFirstNormal.f k a0 a1) (laws_FnExactFirstNormal.f (k + 1) a0 a1) := by
 intro a0 a1 k
 unfold laws_FnExactFirstNormal.f
 repeat' first
  | (with_reducible first | apply impl_FirstNormal.mono | apply spec_FirstNormal.mono | exact LeO.refl _ | exact LeO.none _ | refine LeO.ite ?_ ?_ | refine LeO.bind ?_ (fun _ => ?_))
  | exact LeO.none _
  | refine LeO.ite ?_ ?_
  | refine LeO.bind ?_ (fun _ => ?_)
theorem laws_FnExactFirstNormal.calls (k : Nat) (a0_0 : Int) (a0_1 : Int) (r : Bool) (w : World) (h : laws_FnExactFirstNormal.f k a0_0 a0_1 = some r) :
 Calls Try.prog 3 #[.agg #[.int .i64 a0_0, .int .i64 a0_1]] w fun e w' => e = .returned (.bool r) ∧ Below w.heap.size w w' := by
 have hu23 := Try.underlying23
 have HB := Aq.mk (Below.refl w.heap.size w)
 have H : ((laws_toField.f a0_0 a0_1).bind fun bt180 => ((spec_FirstNormal.f k bt180.1 bt180.2).bind fun bt182 => ((laws_toField.f a0_0 a0_1).bind fun bt184 => ((impl_FirstNormal.f k bt184.1 bt184.2).bind fun bt186 => (if bt186.1 = bt182.1 then (if bt186.2 = bt182.2 then (some true) else (some false)) else (some false)))))) = some r := h
 clear h
 obtain ⟨⟨t180, t181⟩, A2, H⟩ := qBd H
 (try dsimp only at H)
 obtain ⟨⟨t182, t183⟩, A3, H⟩ := qBd H
 (try dsimp only at H)
 obtain ⟨⟨t184, t185⟩, A4, H⟩ := qBd H
 (try dsimp only at H)
 obtain ⟨⟨t186, t187⟩, A5, H⟩ := qBd H
 (try dsimp only at H)
 by_cases c6 : t186 = t182
 rotate_left
 ·rw [if_neg c6] at H
  have c6b0 := beq_eq_false_iff_ne.mpr c6
  have c6b1 := bne_iff_ne.mpr c6
  obtain rfl := Option.some.inj H
  go_enter Try.func3, Try.ntmps3
  go_wp2_with (first | ((with_reducible refine gQd (N := 1) rfl ?_); refine xQe ?hg (N := 1) ?hd (cs := #[.int .i64 a0_0, .int .i64 a0_1]) (t := 23) ?hr ?_; (case hd => rfl); (case hg => rfl); (case hr => exact tH); intro gb179 hg w22 hbox hb; refine qM4 (bQT tB hb) hbox (tZ w hg) (tZ w hg) ?_; clear HB; intro HB BK179 GW179 GE179; clear hb hbox hg; have hcz23_0 : w22.cell? ⟨gb179, 0, none⟩ = some (.int .i64 a0_0) := (kQC BK179.out 0).trans rfl; have hcz23_1 : w22.cell? ⟨gb179, 1, none⟩ = some (.int .i64 a0_1) := (kQC BK179.out 1).trans rfl; have hfz23_0 := kQF BK179.out 0; have hfz23_1 := kQF BK179.out 1) | ((with_reducible refine gQc (f := 10) rfl ?_); refine goesL_ (some 9) rfl rfl Try.func10 (by kernel_rfl) rfl #[.agg #[.int .i64 a0_0, .int .i64 a0_1]] rfl tL ?_; (with_reducible refine (laws_toField.calls a0_0 a0_1 t180 t181 _ A2.out).mono ?_); rintro e w24 ⟨rfl, hb⟩; refine ⟨_, rfl, ?_⟩; refine qM2 (tQ BK179.out hb) (bQT tB hb) ?_; clear BK179 HB; intro BK179 HB; (try clear hb); (try clear hb2); (try clear hk); (try clear hi)) | ((with_reducible refine gQc (f := 9) rfl ?_); refine goesL_ (some 10) rfl rfl Try.func9 (by kernel_rfl) rfl #[.agg #[.int .i64 t180, .int .i64 t181]] rfl tL ?_; (with_reducible refine (spec_FirstNormal.calls k t180 t181 t182 t183 _ A3.out).mono ?_); rintro e w25 ⟨rfl, hb⟩; refine ⟨_, rfl, ?_⟩; refine qM2 (tQ BK179.out hb) (bQT tB hb) ?_; clear BK179 HB; intro BK179 HB; (try clear hb); (try clear hb2); (try clear hk); (try clear hi); have hcz26_0 : w25.cell? ⟨gb179, 0, none⟩ = some (.int .i64 a0_0) := (kQC BK179.out 0).trans rfl; have hcz26_1 : w25.cell? ⟨gb179, 1, none⟩ = some (.int .i64 a0_1) := (kQC BK179.out 1).trans rfl; have hfz26_0 := kQF BK179.out 0; have hfz26_1 := kQF BK179.out 1) | ((with_reducible refine gQc (f := 10) rfl ?_); refine goesL_ (some 15) rfl rfl Try.func10 (by kernel_rfl) rfl #[.agg #[.int .i64 a0_0, .int .i64 a0_1]] rfl tL ?_; (with_reducible refine (laws_toField.calls a0_0 a0_1 t184 t185 _ A4.out).mono ?_); rintro e w27 ⟨rfl, hb⟩; refine ⟨_, rfl, ?_⟩; refine qM2 (tQ BK179.out hb) (bQT tB hb) ?_; clear BK179 HB; intro BK179 HB; (try clear hb); (try clear hb2); (try clear hk); (try clear hi)) | ((with_reducible refine gQc (f := 11) rfl ?_); refine goesL_ (some 16) rfl rfl Try.func11 (by kernel_rfl) rfl #[.agg #[.int .i64 t184, .int .i64 t185]] rfl tL ?_; (with_reducible refine (impl_FirstNormal.calls k t184 t185 t186 t187 _ A5.out).mono ?_); rintro e w28 ⟨rfl, hb⟩; refine ⟨_, rfl, ?_⟩; refine qM2 (tQ BK179.out hb) (bQT tB hb) ?_; clear BK179 HB; intro BK179 HB; (try clear hb); (try clear hb2); (try clear hk); (try clear hi)))
  go_ret
  exact ⟨tE, tB⟩
 rw [if_pos c6] at H
 have c6b0 := beq_iff_eq.mpr c6
 have c6b1 := bne_eq_false_iff_eq.mpr c6
 clear c6
 by_cases c7 : t187 = t183
 ·rw [if_pos c7] at H
  have c7b0 := beq_iff_eq.mpr c7
  have c7b1 := bne_eq_false_iff_eq.mpr c7
  clear c7
  obtain rfl := Option.some.inj H
  go_enter Try.func3, Try.ntmps3
  go_wp2_with (first | ((with_reducible refine gQd (N := 1) rfl ?_); refine xQe ?hg (N := 1) ?hd (cs := #[.int .i64 a0_0, .int .i64 a0_1]) (t := 23) ?hr ?_; (case hd => rfl); (case hg => rfl); (case hr => exact tH); intro gb179 hg w8 hbox hb; refine qM4 (bQT tB hb) hbox (tZ w hg) (tZ w hg) ?_; clear HB; intro HB BK179 GW179 GE179; clear hb hbox hg; have hcz9_0 : w8.cell? ⟨gb179, 0, none⟩ = some (.int .i64 a0_0) := (kQC BK179.out 0).trans rfl; have hcz9_1 : w8.cell? ⟨gb179, 1, none⟩ = some (.int .i64 a0_1) := (kQC BK179.out 1).trans rfl; have hfz9_0 := kQF BK179.out 0; have hfz9_1 := kQF BK179.out 1) | ((with_reducible refine gQc (f := 10) rfl ?_); refine goesL_ (some 9) rfl rfl Try.func10 (by kernel_rfl) rfl #[.agg #[.int .i64 a0_0, .int .i64 a0_1]] rfl tL ?_; (with_reducible refine (laws_toField.calls a0_0 a0_1 t180 t181 _ A2.out).mono ?_); rintro e w10 ⟨rfl, hb⟩; refine ⟨_, rfl, ?_⟩; refine qM2 (tQ BK179.out hb) (bQT tB hb) ?_; clear BK179 HB; intro BK179 HB; (try clear hb); (try clear hb2); (try clear hk); (try clear hi)) | ((with_reducible refine gQc (f := 9) rfl ?_); refine goesL_ (some 10) rfl rfl Try.func9 (by kernel_rfl) rfl #[.agg #[.int .i64 t180, .int .i64 t181]] rfl tL ?_; (with_reducible refine (spec_FirstNormal.calls k t180 t181 t182 t183 _ A3.out).mono ?_); rintro e w11 ⟨rfl, hb⟩; refine ⟨_, rfl, ?_⟩; refine qM2 (tQ BK179.out hb) (bQT tB hb) ?_; clear BK179 HB; intro BK179 HB; (try clear hb); (try clear hb2); (try clear hk); (try clear hi); have hcz12_0 : w11.cell? ⟨gb179, 0, none⟩ = some (.int .i64 a0_0) := (kQC BK179.out 0).trans rfl; have hcz12_1 : w11.cell? ⟨gb179, 1, none⟩ = some (.int .i64 a0_1) := (kQC BK179.out 1).trans rfl; have hfz12_0 := kQF BK179.out 0; have hfz12_1 := kQF BK179.out 1) | ((with_reducible refine gQc (f := 10) rfl ?_); refine goesL_ (some 15) rfl rfl Try.func10 (by kernel_rfl) rfl #[.agg #[.int .i64 a0_0, .int .i64 a0_1]] rfl tL ?_; (with_reducible refine (laws_toField.calls a0_0 a0_1 t184 t185 _ A4.out).mono ?_); rintro e w13 ⟨rfl, hb⟩; refine ⟨_, rfl, ?_⟩; refine qM2 (tQ BK179.out hb) (bQT tB hb) ?_; clear BK179 HB; intro BK179 HB; (try clear hb); (try clear hb2); (try clear hk); (try clear hi)) | ((with_reducible refine gQc (f := 11) rfl ?_); refine goesL_ (some 16) rfl rfl Try.func11 (by kernel_rfl) rfl #[.agg #[.int .i64 t184, .int .i64 t185]] rfl tL ?_; (with_reducible refine (impl_FirstNormal.calls k t184 t185 t186 t187 _ A5.out).mono ?_); rintro e w14 ⟨rfl, hb⟩; refine ⟨_, rfl, ?_⟩; refine qM2 (tQ BK179.out hb) (bQT tB hb) ?_; clear BK179 HB; intro BK179 HB; (try clear hb); (try clear hb2); (try clear hk); (try clear hi)))
  go_ret
  exact ⟨tE, tB⟩
 rw [if_neg c7] at H
 have c7b0 := beq_eq_false_iff_ne.mpr c7
 have c7b1 := bne_iff_ne.mpr c7
 obtain rfl := Option.some.inj H
 go_enter Try.func3, Try.ntmps3
 go_wp2_with (first | ((with_reducible refine gQd (N := 1) rfl ?_); refine xQe ?hg (N := 1) ?hd (cs := #[.int .i64 a0_0, .int .i64 a0_1]) (t := 23) ?hr ?_; (case hd => rfl); (case hg => rfl); (case hr => exact tH); intro gb179 hg w15 hbox hb; refine qM4 (bQT tB hb) hbox (tZ w hg) (tZ w hg) ?_; clear HB; intro HB BK179 GW179 GE179; clear hb hbox hg; have hcz16_0 : w15.cell? ⟨gb179, 0, none⟩ = some (.int .i64 a0_0) := (kQC BK179.out 0).trans rfl; have hcz16_1 : w15.cell? ⟨gb179, 1, none⟩ = some (.int .i64 a0_1) := (kQC BK179.out 1).trans rfl; have hfz16_0 := kQF BK179.out 0; have hfz16_1 := kQF BK179.out 1) | ((with_reducible refine gQc (f := 10) rfl ?_); refine goesL_ (some 9) rfl rfl Try.func10 (by kernel_rfl) rfl #[.agg #[.int .i64 a0_0, .int .i64 a0_1]] rfl tL ?_; (with_reducible refine (laws_toField.calls a0_0 a0_1 t180 t181 _ A2.out).mono ?_); rintro e w17 ⟨rfl, hb⟩; refine ⟨_, rfl, ?_⟩; refine qM2 (tQ BK179.out hb) (bQT tB hb) ?_; clear BK179 HB; intro BK179 HB; (try clear hb); (try clear hb2); (try clear hk); (try clear hi)) | ((with_reducible refine gQc (f := 9) rfl ?_); refine goesL_ (some 10) rfl rfl Try.func9 (by kernel_rfl) rfl #[.agg #[.int .i64 t180, .int .i64 t181]] rfl tL ?_; (with_reducible refine (spec_FirstNormal.calls k t180 t181 t182 t183 _ A3.out).mono ?_); rintro e w18 ⟨rfl, hb⟩; refine ⟨_, rfl, ?_⟩; refine qM2 (tQ BK179.out hb) (bQT tB hb) ?_; clear BK179 HB; intro BK179 HB; (try clear hb); (try clear hb2); (try clear hk); (try clear hi); have hcz19_0 : w18.cell? ⟨gb179, 0, none⟩ = some (.int .i64 a0_0) := (kQC BK179.out 0).trans rfl; have hcz19_1 : w18.cell? ⟨gb179, 1, none⟩ = some (.int .i64 a0_1) := (kQC BK179.out 1).trans rfl; have hfz19_0 := kQF BK179.out 0; have hfz19_1 := kQF BK179.out 1) | ((with_reducible refine gQc (f := 10) rfl ?_); refine goesL_ (some 15) rfl rfl Try.func10 (by kernel_rfl) rfl #[.agg #[.int .i64 a0_0, .int .i64 a0_1]] rfl tL ?_; (with_reducible refine (laws_toField.calls a0_0 a0_1 t184 t185 _ A4.out).mono ?_); rintro e w20 ⟨rfl, hb⟩; refine ⟨_, rfl, ?_⟩; refine qM2 (tQ BK179.out hb) (bQT tB hb) ?_; clear BK179 HB; intro BK179 HB; (try clear hb); (try clear hb2); (try clear hk); (try clear hi)) | ((with_reducible refine gQc (f := 11) rfl ?_); refine goesL_ (some 16) rfl rfl Try.func11 (by kernel_rfl) rfl #[.agg #[.int .i64 t184, .int .i64 t185]] rfl tL ?_; (with_reducible refine (impl_FirstNormal.calls k t184 t185 t186 t187 _ A5.out).mono ?_); rintro e w21 ⟨rfl, hb⟩; refine ⟨_, rfl, ?_⟩; refine qM2 (tQ BK179.out hb) (bQT tB hb) ?_; clear BK179 HB; intro BK179 HB; (try clear hb); (try clear hb2); (try clear hk); (try clear hi)))
 go_ret
 exact ⟨tE, tB⟩
end Go.Proofs.Ytbgbblgdbcjibaa.P
