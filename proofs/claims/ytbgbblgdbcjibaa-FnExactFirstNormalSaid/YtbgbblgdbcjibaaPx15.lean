/- Functions of the program and what they tell, as the printing program wrote it. -/
import Derived.Test.YtbgbblgdbcjibaaPx0
import Derived.Test.YtbgbblgdbcjibaaPx4
import Derived.Test.YtbgbblgdbcjibaaPx6
import Derived.Test.YtbgbblgdbcjibaaPx14
namespace Go.Proofs.Ytbgbblgdbcjibaa.P
open Go.Shelf Go.RowKit Go.Proofs.YtbgbblgdbcjibaaW.PrintWords Go.Proofs.YtbgbblgdbcjibaaW.PrintLast Go.Proofs.YtbgbblgdbcjibaaW.PrintMore
attribute [local go_sem] max2_int min2_int max_two min_two max_three min_three max_four min_four
set_option linter.unusedVariables false
set_option linter.unusedSimpArgs false
set_option maxHeartbeats 8000000
set_option maxRecDepth 100000
def impl_FirstNormal.l0 : Nat → Int → Int → Int → Option (Int × Int)
  | 0, _, _, _ => none
  | k + 1, x5, x172000, x172001 => (impl_Field_conjugates.f k x172000 x172001 x5).bind fun t173 => ((impl_Field_coordinates.f k x172000 x172001 t173).bind fun t176 => (if (t176.length : Int) = 0 then (impl_FirstNormal.l0 k (wrap64 (x5 + 1)) x172000 x172001) else (some (x5, 0))))
def impl_FirstNormal.f (k : Nat) (a0_0 : Int) (a0_1 : Int) : Option (Int × Int) := (impl_Field_code.f k a0_0 a0_1 true ([] : List Int)).bind fun t172 => (if t172 = 0 then (impl_FirstNormal.l0 k 1 a0_0 a0_1) else (some (0, t172)))
theorem impl_FirstNormal.mono_l : ∀ k, (∀ y0 y1 y2, LeO (impl_FirstNormal.l0 k y0 y1 y2) (impl_FirstNormal.l0 (k + 1) y0 y1 y2))
 | 0 => fun _ _ _ r h => by simp [impl_FirstNormal.l0] at h
 | k + 1 => by
  have ih0 := impl_FirstNormal.mono_l k
  ·intro y0 y1 y2
   unfold impl_FirstNormal.l0
   repeat' first
   | (with_reducible first | apply ih0 | apply impl_Field_code.mono | apply impl_Field_conjugates.mono | apply impl_Field_coordinates.mono | exact LeO.refl _ | exact LeO.none _ | refine LeO.ite ?_ ?_ | refine LeO.bind ?_ (fun _ => ?_))
   | exact LeO.none _
   | refine LeO.ite ?_ ?_
   | refine LeO.bind ?_ (fun _ => ?_)
theorem impl_FirstNormal.mono : ∀ a0 a1 k, LeO (impl_FirstNormal.f k a0 a1) (impl_FirstNormal.f (k + 1) a0 a1) := by
 intro a0 a1 k
 have ih0 := impl_FirstNormal.mono_l k
 unfold impl_FirstNormal.f
 repeat' first
  | (with_reducible first | apply ih0 | apply impl_Field_code.mono | apply impl_Field_conjugates.mono | apply impl_Field_coordinates.mono | exact LeO.refl _ | exact LeO.none _ | refine LeO.ite ?_ ?_ | refine LeO.bind ?_ (fun _ => ?_))
  | exact LeO.none _
  | refine LeO.ite ?_ ?_
  | refine LeO.bind ?_ (fun _ => ?_)
theorem impl_FirstNormal.calls (k : Nat) (a0_0 : Int) (a0_1 : Int) (r1 : Int) (r2 : Int) (w : World) (h : impl_FirstNormal.f k a0_0 a0_1 = some (r1, r2)) :
 Calls Try.prog 11 #[.agg #[.int .i64 a0_0, .int .i64 a0_1]] w fun e w' => e = .returned (.tuple #[.int .i64 r1, .int .i64 r2]) ∧ Below w.heap.size w w' := by
 have hu26 := Try.underlying26
 have HB := Aq.mk (Below.refl w.heap.size w)
 have H : ((impl_Field_code.f k a0_0 a0_1 true ([] : List Int)).bind fun t172 => (if t172 = 0 then (impl_FirstNormal.l0 k 1 a0_0 a0_1) else (some (0, t172)))) = some (r1, r2) := h
 clear h
 obtain ⟨t172, A2, H⟩ := qBd H
 by_cases c3 : t172 = 0
 rotate_left
 ·rw [if_neg c3] at H
  have c3b0 := beq_eq_false_iff_ne.mpr c3
  have c3b1 := bne_iff_ne.mpr c3
  simp only [Option.some.injEq, Prod.mk.injEq] at H
  obtain ⟨rfl, rfl⟩ := H
  go_enter Try.func11, Try.ntmps11
  go_wp2_with (first | ((with_reducible refine gQd (N := 1) rfl ?_); refine xQe ?hg (N := 1) ?hd (cs := #[.int .i64 a0_0, .int .i64 a0_1]) (t := 26) ?hr ?_; (case hd => rfl); (case hg => rfl); (case hr => exact tH); intro gb171 hg w18 hbox hb; refine qM4 (bQT tB hb) hbox (tZ w hg) (tZ w hg) ?_; clear HB; intro HB BK171 GW171 GE171; clear hb hbox hg; have hcz19_0 : w18.cell? ⟨gb171, 0, none⟩ = some (.int .i64 a0_0) := (kQC BK171.out 0).trans rfl; have hcz19_1 : w18.cell? ⟨gb171, 1, none⟩ = some (.int .i64 a0_1) := (kQC BK171.out 1).trans rfl; have hfz19_0 := kQF BK171.out 0; have hfz19_1 := kQF BK171.out 1) | ((with_reducible refine gQc (f := 32) rfl ?_); refine goesL_ (some 7) rfl rfl Try.func32 (by kernel_rfl) rfl #[.agg #[.int .i64 a0_0, .int .i64 a0_1], .bool true, .slice none 0 0] rfl tL ?_; (refine (impl_Field_code.calls k a0_0 a0_1 true _ _ ([] : List Int) t172 _ ?s1 ?s2 A2.out).mono ?_); (case s1 => exact Kd.C_nil _ _); (case s2 => exact Nat.le_refl _); rintro e w20 ⟨rfl, hb⟩; refine ⟨_, rfl, ?_⟩; refine qM2 (tQ BK171.out hb) (bQT tB hb) ?_; clear BK171 HB; intro BK171 HB; (try clear hb); (try clear hb2); (try clear hk); (try clear hi)))
  go_ret2
  exact ⟨tE, tB⟩
 rw [if_pos c3] at H
 have c3b0 := beq_iff_eq.mpr c3
 have c3b1 := bne_eq_false_iff_eq.mpr c3
 clear c3
 replace H' := Aq.mk H
 clear H
 go_enter Try.func11, Try.ntmps11
 go_wp2_with (first | ((with_reducible refine gQd (N := 1) rfl ?_); refine xQe ?hg (N := 1) ?hd (cs := #[.int .i64 a0_0, .int .i64 a0_1]) (t := 26) ?hr ?_; (case hd => rfl); (case hg => rfl); (case hr => exact tH); intro gb171 hg w4 hbox hb; refine qM4 (bQT tB hb) hbox (tZ w hg) (tZ w hg) ?_; clear HB; intro HB BK171 GW171 GE171; clear hb hbox hg; have hcz5_0 : w4.cell? ⟨gb171, 0, none⟩ = some (.int .i64 a0_0) := (kQC BK171.out 0).trans rfl; have hcz5_1 : w4.cell? ⟨gb171, 1, none⟩ = some (.int .i64 a0_1) := (kQC BK171.out 1).trans rfl; have hfz5_0 := kQF BK171.out 0; have hfz5_1 := kQF BK171.out 1) | ((with_reducible refine gQc (f := 32) rfl ?_); refine goesL_ (some 7) rfl rfl Try.func32 (by kernel_rfl) rfl #[.agg #[.int .i64 a0_0, .int .i64 a0_1], .bool true, .slice none 0 0] rfl tL ?_; (refine (impl_Field_code.calls k a0_0 a0_1 true _ _ ([] : List Int) t172 _ ?s1 ?s2 A2.out).mono ?_); (case s1 => exact Kd.C_nil _ _); (case s2 => exact Nat.le_refl _); rintro e w6 ⟨rfl, hb⟩; refine ⟨_, rfl, ?_⟩; refine qM2 (tQ BK171.out hb) (bQT tB hb) ?_; clear BK171 HB; intro BK171 HB; (try clear hb); (try clear hb2); (try clear hk); (try clear hi)))
 go_loopg [5] k (fun kq v5 w' => ∃ (x5_1 : Int), v5 = .int .i64 x5_1 ∧ Aq (impl_FirstNormal.l0 kq x5_1 a0_0 a0_1 = some (r1, r2)) ∧ Aq (kq ≤ k) ∧ Aq (w'.heap[gb171]? = some (.cells #[.int .i64 a0_0, .int .i64 a0_1] 26 (0, 0))) ∧ Aq (Below w.heap.size w w'))
 case atStart => exact ⟨(1), tS, H', ⟨Nat.le_refl _⟩, ⟨tG BK171.out⟩, ⟨tB⟩⟩
 clear H'
 try clear c3
 try clear c3b0
 try clear c3b1
 try clear hcz5_0
 try clear hcz5_1
 try clear hfz5_0
 try clear hfz5_1
 obtain ⟨x5_1, rfl, HA, HK1, BK171, HB⟩ := hrel
 cases gk with
 | zero => exact absurd HA.out (by simp [impl_FirstNormal.l0])
 | succ k1 =>
  have H := HA.out
  clear HA
  simp only [impl_FirstNormal.l0] at H
  obtain ⟨t173, A7, H⟩ := qBd H
  obtain ⟨t176, A8, H⟩ := qBd H
  by_cases c9 : (t176.length : Int) = 0
  ·rw [if_pos c9] at H
   have c9b0 := beq_iff_eq.mpr c9
   have c9b1 := bne_eq_false_iff_eq.mpr c9
   clear c9
   replace H' := Aq.mk H
   clear H
   try go_wp2
   have n0_ := Aq.mk (kQD BK171.out)
   have n1_ := Aq.mk (bQ1 HB.out)
   clear BK171
   clear HB
   have BK171 := n0_
   have HB := n1_
   clear n0_ n1_
   refine start_ (n := 6) (S := fun w' => w'.cell? ⟨gb171, 0, none⟩ = some (.int .i64 a0_0) ∧ w'.cell? ⟨gb171, 1, none⟩ = some (.int .i64 a0_1)) (ds := []) #[false, false, false, false, false, false] (by kernel_rfl) rfl rfl ⟨(kQC BK171.out 0).trans rfl, (kQC BK171.out 1).trans rfl⟩ (fun hHeld => ?_)
   generalize wr.drew = w10 at BK171 HB hHeld ⊢
   refine tP0k 2 13 (bm 6 4) ?_
   refine tT2k 0 11 (bm 6 5) ?_
   refine tT2k 1 12 (bm 6 7) ?_
   refine one_ (i := 3) (N := some 14) (bm 6 15) rfl rfl (by kernel_rfl) (by decide) (fun K hK => ?_)
   refine goes_ Try.func34 (by kernel_rfl) rfl #[.agg #[.int .i64 a0_0, .int .i64 a0_1], .int .i64 x5_1] (by rfl) rfl rfl tL ?_
   with_reducible refine (impl_Field_conjugates.calls k1 a0_0 a0_1 x5_1 t173 _ A7.out).mono ?_
   rintro e w11 ⟨v174, rfl, ho0, hb⟩
   refine ⟨_, rfl, ?_⟩
   have n0_ := Aq.mk (Kd.R_lower ho0 (bQZ tB))
   have n1_ := Aq.mk (tQ BK171.out hb)
   have n2_ := Aq.mk (bQT tB hb)
   clear BK171
   clear HB
   have HO175 := n0_
   have BK171 := n1_
   have HB := n2_
   clear n0_ n1_ n2_
   (try clear hb)
   (try clear hb2)
   (try clear hk)
   (try clear hi)
   (try clear ho0)
   obtain ⟨Ao12, co12, eo12⟩ := Kd.R_slice HO175.out
   (first | subst eo12 | (injection eo12 with f1_ f2_ f3_; have f4_ := f1_.symm; have f5_ := f3_.symm; clear f1_ f2_ f3_; subst f4_; subst f5_))
   refine hK.out _ _ ⟨(kQC BK171.out 0).trans rfl, (kQC BK171.out 1).trans rfl⟩ (fun hHeld => ?_)
   clear hK K
   refine tN 14 ?_
   refine one_ (i := 4) (N := some 15) (bm 6 31) rfl rfl (by kernel_rfl) (by decide) (fun K hK => ?_)
   refine goes_ Try.func33 (by kernel_rfl) rfl #[.agg #[.int .i64 a0_0, .int .i64 a0_1], .slice Ao12 t173.length co12] (by rfl) rfl rfl tL ?_
   with_reducible refine (impl_Field_coordinates.calls_nil k1 a0_0 a0_1 _ _ t173 t176 _ ?s1 ?s2 A8.out).mono ?_
   (case s1 => exact tC ((Kd.R_reads' HO175.out).2.2))
   (case s2 => exact (Kd.R_reads' HO175.out).2.1)
   rintro e w13 ⟨v177, rfl, hnil_, ho0, hb⟩
   have hq_ := nil_q Try.underlying29 ho0 hnil_
   have hr_ := nil_g (P := Try.prog) (t := 29) ho0
   clear hnil_
   refine ⟨_, rfl, ?_⟩
   have n0_ := Aq.mk (Kd.R_elder' (tR HO175.out) (Kd.R_base ho0) hb)
   have n1_ := Aq.mk (Kd.R_lower (Kd.R_new' ho0 (Kd.R_lt (tR HO175.out))) (bQZ tB))
   have n2_ := Aq.mk (tQ BK171.out hb)
   have n3_ := Aq.mk (bQT tB hb)
   clear HO175
   clear BK171
   clear HB
   have HO175 := n0_
   have HO178 := n1_
   have BK171 := n2_
   have HB := n3_
   clear n0_ n1_ n2_ n3_
   (try clear hb)
   (try clear hb2)
   (try clear hk)
   (try clear hi)
   (try clear ho0)
   refine hK.out _ _ ⟨(kQC BK171.out 0).trans rfl, (kQC BK171.out 1).trans rfl⟩ (fun hHeld => ?_)
   clear hK K
   refine tN 15 ?_
   refine tP0k 5 16 (bm 6 63) ?_
   refine done_ (by kernel_rfl) ?_
   try go_wp2
   go_roundg k1
   case measure => have := HK1.out; omega
   case rel => exact ⟨(wrap64 (x5_1 + 1)), tS, H', ⟨by have := HK1.out; omega⟩, ⟨tG BK171.out⟩, ⟨tB⟩⟩
  rw [if_neg c9] at H
  have c9b0 := beq_eq_false_iff_ne.mpr c9
  have c9b1 := bne_iff_ne.mpr c9
  have c9b2 : ¬ (t176 = []) := fun h_ => c9 (by rw [h_]; rfl)
  simp only [Option.some.injEq, Prod.mk.injEq] at H
  obtain ⟨rfl, rfl⟩ := H
  try go_wp2
  have n0_ := Aq.mk (kQD BK171.out)
  have n1_ := Aq.mk (bQ1 HB.out)
  clear BK171
  clear HB
  have BK171 := n0_
  have HB := n1_
  clear n0_ n1_
  refine start_ (n := 6) (S := fun w' => w'.cell? ⟨gb171, 0, none⟩ = some (.int .i64 a0_0) ∧ w'.cell? ⟨gb171, 1, none⟩ = some (.int .i64 a0_1)) (ds := []) #[false, false, false, false, false, false] (by kernel_rfl) rfl rfl ⟨(kQC BK171.out 0).trans rfl, (kQC BK171.out 1).trans rfl⟩ (fun hHeld => ?_)
  generalize wr.drew = w14 at BK171 HB hHeld ⊢
  refine tP0k 2 13 (bm 6 4) ?_
  refine tT2k 0 11 (bm 6 5) ?_
  refine tT2k 1 12 (bm 6 7) ?_
  refine one_ (i := 3) (N := some 14) (bm 6 15) rfl rfl (by kernel_rfl) (by decide) (fun K hK => ?_)
  refine goes_ Try.func34 (by kernel_rfl) rfl #[.agg #[.int .i64 a0_0, .int .i64 a0_1], .int .i64 x5_1] (by rfl) rfl rfl tL ?_
  with_reducible refine (impl_Field_conjugates.calls k1 a0_0 a0_1 x5_1 t173 _ A7.out).mono ?_
  rintro e w15 ⟨v174, rfl, ho0, hb⟩
  refine ⟨_, rfl, ?_⟩
  have n0_ := Aq.mk (Kd.R_lower ho0 (bQZ tB))
  have n1_ := Aq.mk (tQ BK171.out hb)
  have n2_ := Aq.mk (bQT tB hb)
  clear BK171
  clear HB
  have HO175 := n0_
  have BK171 := n1_
  have HB := n2_
  clear n0_ n1_ n2_
  (try clear hb)
  (try clear hb2)
  (try clear hk)
  (try clear hi)
  (try clear ho0)
  obtain ⟨Ao16, co16, eo16⟩ := Kd.R_slice HO175.out
  (first | subst eo16 | (injection eo16 with f1_ f2_ f3_; have f4_ := f1_.symm; have f5_ := f3_.symm; clear f1_ f2_ f3_; subst f4_; subst f5_))
  refine hK.out _ _ ⟨(kQC BK171.out 0).trans rfl, (kQC BK171.out 1).trans rfl⟩ (fun hHeld => ?_)
  clear hK K
  refine tN 14 ?_
  refine one_ (i := 4) (N := some 15) (bm 6 31) rfl rfl (by kernel_rfl) (by decide) (fun K hK => ?_)
  refine goes_ Try.func33 (by kernel_rfl) rfl #[.agg #[.int .i64 a0_0, .int .i64 a0_1], .slice Ao16 t173.length co16] (by rfl) rfl rfl tL ?_
  with_reducible refine (impl_Field_coordinates.calls_nil k1 a0_0 a0_1 _ _ t173 t176 _ ?s1 ?s2 A8.out).mono ?_
  (case s1 => exact tC ((Kd.R_reads' HO175.out).2.2))
  (case s2 => exact (Kd.R_reads' HO175.out).2.1)
  rintro e w17 ⟨v177, rfl, hnil_, ho0, hb⟩
  have hq_ := nil_q Try.underlying29 ho0 hnil_
  have hr_ := nil_g (P := Try.prog) (t := 29) ho0
  clear hnil_
  refine ⟨_, rfl, ?_⟩
  have n0_ := Aq.mk (Kd.R_elder' (tR HO175.out) (Kd.R_base ho0) hb)
  have n1_ := Aq.mk (Kd.R_lower (Kd.R_new' ho0 (Kd.R_lt (tR HO175.out))) (bQZ tB))
  have n2_ := Aq.mk (tQ BK171.out hb)
  have n3_ := Aq.mk (bQT tB hb)
  clear HO175
  clear BK171
  clear HB
  have HO175 := n0_
  have HO178 := n1_
  have BK171 := n2_
  have HB := n3_
  clear n0_ n1_ n2_ n3_
  (try clear hb)
  (try clear hb2)
  (try clear hk)
  (try clear hi)
  (try clear ho0)
  refine hK.out _ _ ⟨(kQC BK171.out 0).trans rfl, (kQC BK171.out 1).trans rfl⟩ (fun hHeld => ?_)
  clear hK K
  refine tN 15 ?_
  refine tP0k 5 16 (bm 6 63) ?_
  refine done_ (by kernel_rfl) ?_
  try go_wp2
  go_ret2
  exact ⟨tE, tB⟩
end Go.Proofs.Ytbgbblgdbcjibaa.P
