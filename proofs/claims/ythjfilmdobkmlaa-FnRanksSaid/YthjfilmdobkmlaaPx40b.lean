/- Functions of the program and what they tell, as the printing program wrote it. -/
import Derived.Test.YthjfilmdobkmlaaPx0
import Derived.Test.YthjfilmdobkmlaaPx4
import Derived.Test.YthjfilmdobkmlaaPx7
import Derived.Test.YthjfilmdobkmlaaPx9
import Derived.Test.YthjfilmdobkmlaaPx13
import Derived.Test.YthjfilmdobkmlaaPx15
import Derived.Test.YthjfilmdobkmlaaPx17
import Derived.Test.YthjfilmdobkmlaaPx18
import Derived.Test.YthjfilmdobkmlaaPx19
import Derived.Test.YthjfilmdobkmlaaPx40a
namespace Go.Proofs.Ythjfilmdobkmlaa.P
open Go.Shelf Go.RowKit Go.Proofs.YthjfilmdobkmlaaW.PrintWords Go.Proofs.YthjfilmdobkmlaaW.PrintLast Go.Proofs.YthjfilmdobkmlaaW.PrintMore
attribute [local go_sem] max2_int min2_int max_two min_two max_three min_three max_four min_four
set_option linter.unusedVariables false
set_option linter.unusedSimpArgs false
set_option maxHeartbeats 8000000
set_option maxRecDepth 100000
theorem laws_FnRanks.G1 : laws_FnRanks.G0.1 := by
 intro k A0 c0 l0 A1 c1 l1 r w hu27 HR0 HC0 HR1 HC1 za_0_0 A3 za_0_1 t338 A5 za_0_2 t339 t340 A6 za_0_3 t344 t345 A7 za_0_4 t346 t347 t350 A8 H t352 t353 t356 A9 HC10 za_0_5 za_0_6 za_0_7 nd w11 gb343 w12 GW343 GE343 hcz13_0 hcz13_1 hfz13_0 hfz13_1 Ao14 co14 w15 hcz16_0 hcz16_1 hfz16_0 hfz16_1 w17 gb351 w18 GW351 GE351 NB343_351 NB351_343 hnb19 hnc19 hcz20_0 hcz20_1 hfz20_0 hfz20_1 Ao21 co21 hcz22_0 hcz22_1 hfz22_0 hfz22_1 w23 gb357 w24 BK343 BK351 HB BK357 GW357 GE357 NB343_357 NB357_343 NB351_357 NB357_351 hnb25 hnc25 hnb26 hnc26 hcz27_0 hcz27_1 hfz27_0 hfz27_1 Ao28 co28 HO342 HO349 HO355 za_0_8 za_0_9 za_0_10 za_0_11 za_0_12 za_0_13 za_0_14 za_0_15
 have H := HC10.out
 clear HC10
 by_cases c29 : t345 = 0
 rotate_left
 ·rw [if_neg c29] at H
  have c29b0 := beq_eq_false_iff_ne.mpr c29
  have c29b1 := bne_iff_ne.mpr c29
  (first | rw [c29b0] | (simp only [i64_w, i32_w]; rw [c29b0]) | skip)
  replace H' := Aq.mk H
  clear H
  go_wp2
  go_meet
  case rel => exact ⟨_, (true), tS, H', ⟨tO⟩, ⟨by (with_reducible repeat (first | apply Kd.RqA | apply Kd.RqN | apply Kd.RqD)); exact Kd.R_mono (Kd.R_far (p := ⟨gb357, 1, none⟩) (Kd.R_far (p := ⟨gb357, 0, none⟩) (Kd.R_types HO342.out BK357.out (by decide)) (fun _ hk => hk.2) (.int .i64 t352)) (fun _ hk => hk.2) (.slice Ao28 t353.length co28)) (fun _ hk => ⟨hk.1.1.2, hk.1.2⟩)⟩, ⟨by (with_reducible repeat (first | apply Kd.RqA | apply Kd.RqN | apply Kd.RqD)); exact Kd.R_mono (Kd.R_far (p := ⟨gb357, 1, none⟩) (Kd.R_far (p := ⟨gb357, 0, none⟩) (Kd.R_types HO349.out BK357.out (by decide)) (fun _ hk => hk.2) (.int .i64 t352)) (fun _ hk => hk.2) (.slice Ao28 t353.length co28)) (fun _ hk => ⟨hk.1.1.2, hk.1.2⟩)⟩, ⟨by (with_reducible repeat (first | apply Kd.RqA | apply Kd.RqN | apply Kd.RqD)); exact Kd.R_mono (Kd.R_far (p := ⟨gb357, 1, none⟩) (Kd.R_far (p := ⟨gb357, 0, none⟩) (Kd.R_types HO355.out BK357.out (by decide)) (fun _ hk => hk.2) (.int .i64 t352)) (fun _ hk => hk.2) (.slice Ao28 t353.length co28)) (fun _ hk => ⟨hk.1.1.2, hk.1.2⟩)⟩, ⟨by (with_reducible repeat (first | refine kQN ?_ _ | refine kQD ?_ | refine kQA ?_ _)); refine kQR ?_ NB343_357.out _; (with_reducible repeat (first | refine kQN ?_ _ | refine kQD ?_ | refine kQA ?_ _)); refine kQR ?_ NB343_357.out _; (with_reducible repeat (first | refine kQN ?_ _ | refine kQD ?_ | refine kQA ?_ _)); exact BK343.out⟩, ⟨by (with_reducible repeat (first | refine kQN ?_ _ | refine kQD ?_ | refine kQA ?_ _)); refine kQR ?_ NB351_357.out _; (with_reducible repeat (first | refine kQN ?_ _ | refine kQD ?_ | refine kQA ?_ _)); refine kQR ?_ NB351_357.out _; (with_reducible repeat (first | refine kQN ?_ _ | refine kQD ?_ | refine kQA ?_ _)); exact BK351.out⟩, ⟨by (with_reducible repeat (first | refine kQN ?_ _ | refine kQD ?_ | refine kQA ?_ _)); refine kQP (cs := #[.int .i64 t352, .slice none 0 0]) ?_ 1 _ rfl; (with_reducible repeat (first | refine kQN ?_ _ | refine kQD ?_ | refine kQA ?_ _)); refine kQP (cs := #[.int .i64 0, .slice none 0 0]) ?_ 0 _ rfl; (with_reducible repeat (first | refine kQN ?_ _ | refine kQD ?_ | refine kQA ?_ _)); exact BK357.out⟩, ⟨tB⟩⟩
 rw [if_pos c29] at H
 have c29b0 := beq_iff_eq.mpr c29
 have c29b1 := bne_eq_false_iff_eq.mpr c29
 clear c29
 (first | rw [c29b0] | (simp only [i64_w, i32_w]; rw [c29b0]) | skip)
 by_cases c30 : t350 = 0
 rotate_left
 ·rw [if_neg c30] at H
  have c30b0 := beq_eq_false_iff_ne.mpr c30
  have c30b1 := bne_iff_ne.mpr c30
  replace H' := Aq.mk H
  clear H
  go_wp2
  go_meet
  case rel => exact ⟨_, (true), tS, H', ⟨tO⟩, ⟨by (with_reducible repeat (first | apply Kd.RqA | apply Kd.RqN | apply Kd.RqD)); exact Kd.R_mono (Kd.R_far (p := ⟨gb357, 1, none⟩) (Kd.R_far (p := ⟨gb357, 0, none⟩) (Kd.R_types HO342.out BK357.out (by decide)) (fun _ hk => hk.2) (.int .i64 t352)) (fun _ hk => hk.2) (.slice Ao28 t353.length co28)) (fun _ hk => ⟨hk.1.1.2, hk.1.2⟩)⟩, ⟨by (with_reducible repeat (first | apply Kd.RqA | apply Kd.RqN | apply Kd.RqD)); exact Kd.R_mono (Kd.R_far (p := ⟨gb357, 1, none⟩) (Kd.R_far (p := ⟨gb357, 0, none⟩) (Kd.R_types HO349.out BK357.out (by decide)) (fun _ hk => hk.2) (.int .i64 t352)) (fun _ hk => hk.2) (.slice Ao28 t353.length co28)) (fun _ hk => ⟨hk.1.1.2, hk.1.2⟩)⟩, ⟨by (with_reducible repeat (first | apply Kd.RqA | apply Kd.RqN | apply Kd.RqD)); exact Kd.R_mono (Kd.R_far (p := ⟨gb357, 1, none⟩) (Kd.R_far (p := ⟨gb357, 0, none⟩) (Kd.R_types HO355.out BK357.out (by decide)) (fun _ hk => hk.2) (.int .i64 t352)) (fun _ hk => hk.2) (.slice Ao28 t353.length co28)) (fun _ hk => ⟨hk.1.1.2, hk.1.2⟩)⟩, ⟨by (with_reducible repeat (first | refine kQN ?_ _ | refine kQD ?_ | refine kQA ?_ _)); refine kQR ?_ NB343_357.out _; (with_reducible repeat (first | refine kQN ?_ _ | refine kQD ?_ | refine kQA ?_ _)); refine kQR ?_ NB343_357.out _; (with_reducible repeat (first | refine kQN ?_ _ | refine kQD ?_ | refine kQA ?_ _)); exact BK343.out⟩, ⟨by (with_reducible repeat (first | refine kQN ?_ _ | refine kQD ?_ | refine kQA ?_ _)); refine kQR ?_ NB351_357.out _; (with_reducible repeat (first | refine kQN ?_ _ | refine kQD ?_ | refine kQA ?_ _)); refine kQR ?_ NB351_357.out _; (with_reducible repeat (first | refine kQN ?_ _ | refine kQD ?_ | refine kQA ?_ _)); exact BK351.out⟩, ⟨by (with_reducible repeat (first | refine kQN ?_ _ | refine kQD ?_ | refine kQA ?_ _)); refine kQP (cs := #[.int .i64 t352, .slice none 0 0]) ?_ 1 _ rfl; (with_reducible repeat (first | refine kQN ?_ _ | refine kQD ?_ | refine kQA ?_ _)); refine kQP (cs := #[.int .i64 0, .slice none 0 0]) ?_ 0 _ rfl; (with_reducible repeat (first | refine kQN ?_ _ | refine kQD ?_ | refine kQA ?_ _)); exact BK357.out⟩, ⟨tB⟩⟩
 rw [if_pos c30] at H
 have c30b0 := beq_iff_eq.mpr c30
 have c30b1 := bne_eq_false_iff_eq.mpr c30
 clear c30
 by_cases c31 : t356 = 0
 rotate_left
 ·rw [if_neg c31] at H
  have c31b0 := beq_eq_false_iff_ne.mpr c31
  have c31b1 := bne_iff_ne.mpr c31
  replace H' := Aq.mk H
  clear H
  go_wp2
  go_meet
  case rel => exact ⟨_, (true), tS, H', ⟨tO⟩, ⟨by (with_reducible repeat (first | apply Kd.RqA | apply Kd.RqN | apply Kd.RqD)); exact Kd.R_mono (Kd.R_far (p := ⟨gb357, 1, none⟩) (Kd.R_far (p := ⟨gb357, 0, none⟩) (Kd.R_types HO342.out BK357.out (by decide)) (fun _ hk => hk.2) (.int .i64 t352)) (fun _ hk => hk.2) (.slice Ao28 t353.length co28)) (fun _ hk => ⟨hk.1.1.2, hk.1.2⟩)⟩, ⟨by (with_reducible repeat (first | apply Kd.RqA | apply Kd.RqN | apply Kd.RqD)); exact Kd.R_mono (Kd.R_far (p := ⟨gb357, 1, none⟩) (Kd.R_far (p := ⟨gb357, 0, none⟩) (Kd.R_types HO349.out BK357.out (by decide)) (fun _ hk => hk.2) (.int .i64 t352)) (fun _ hk => hk.2) (.slice Ao28 t353.length co28)) (fun _ hk => ⟨hk.1.1.2, hk.1.2⟩)⟩, ⟨by (with_reducible repeat (first | apply Kd.RqA | apply Kd.RqN | apply Kd.RqD)); exact Kd.R_mono (Kd.R_far (p := ⟨gb357, 1, none⟩) (Kd.R_far (p := ⟨gb357, 0, none⟩) (Kd.R_types HO355.out BK357.out (by decide)) (fun _ hk => hk.2) (.int .i64 t352)) (fun _ hk => hk.2) (.slice Ao28 t353.length co28)) (fun _ hk => ⟨hk.1.1.2, hk.1.2⟩)⟩, ⟨by (with_reducible repeat (first | refine kQN ?_ _ | refine kQD ?_ | refine kQA ?_ _)); refine kQR ?_ NB343_357.out _; (with_reducible repeat (first | refine kQN ?_ _ | refine kQD ?_ | refine kQA ?_ _)); refine kQR ?_ NB343_357.out _; (with_reducible repeat (first | refine kQN ?_ _ | refine kQD ?_ | refine kQA ?_ _)); exact BK343.out⟩, ⟨by (with_reducible repeat (first | refine kQN ?_ _ | refine kQD ?_ | refine kQA ?_ _)); refine kQR ?_ NB351_357.out _; (with_reducible repeat (first | refine kQN ?_ _ | refine kQD ?_ | refine kQA ?_ _)); refine kQR ?_ NB351_357.out _; (with_reducible repeat (first | refine kQN ?_ _ | refine kQD ?_ | refine kQA ?_ _)); exact BK351.out⟩, ⟨by (with_reducible repeat (first | refine kQN ?_ _ | refine kQD ?_ | refine kQA ?_ _)); refine kQP (cs := #[.int .i64 t352, .slice none 0 0]) ?_ 1 _ rfl; (with_reducible repeat (first | refine kQN ?_ _ | refine kQD ?_ | refine kQA ?_ _)); refine kQP (cs := #[.int .i64 0, .slice none 0 0]) ?_ 0 _ rfl; (with_reducible repeat (first | refine kQN ?_ _ | refine kQD ?_ | refine kQA ?_ _)); exact BK357.out⟩, ⟨tB⟩⟩
 rw [if_pos c31] at H
 have c31b0 := beq_iff_eq.mpr c31
 have c31b1 := bne_eq_false_iff_eq.mpr c31
 clear c31
 obtain ⟨t358, A32, H⟩ := qBd H
 by_cases c33 : t358 = true
 rotate_left
 ·replace c33 := Bool.eq_false_iff.mpr c33
  subst c33
  rw [if_neg (show ¬ (false = true) by decide)] at H
  replace H' := Aq.mk H
  clear H
  have hnb61 := NB351_343.out
  have hnc61 := NB343_351.out
  have hnb62 := NB351_357.out
  have hnc62 := NB357_351.out
  have hcz63_0 : w24.cell? ⟨gb351, 0, none⟩ = some (.int .i64 t346) := (kQC BK351.out 0).trans rfl
  have hcz63_1 : w24.cell? ⟨gb351, 1, none⟩ = some (.slice Ao21 t347.length co21) := (kQC BK351.out 1).trans rfl
  have hfz63_0 := kQF BK351.out 0
  have hfz63_1 := kQF BK351.out 1
  go_wp2_with (first | (go_at_call 13; (with_reducible refine (impl_IsSpace.calls k t346 _ _ t347 false _ ?s1 ?s2 A32.out).mono ?_); (case s1 => refine (Kd.R_reads' (e := 2) (base := w.heap.size) (ok := fun k_ => ((True ∧ some k_ ≠ (.slice Ao14 t340.length co14 : Value).ownBlock) ∧ some k_ ≠ (.slice Ao28 t353.length co28 : Value).ownBlock)) (n := t347.length) (c := co21) ?_).2.2; exact (by (with_reducible repeat (first | apply Kd.RqA | apply Kd.RqN | apply Kd.RqD)); exact (Kd.R_mono (Kd.R_far (p := ⟨gb357, 1, none⟩) (Kd.R_far (p := ⟨gb357, 0, none⟩) (Kd.R_types HO349.out BK357.out (by decide)) (fun _ hk => hk.2) (.int .i64 t352)) (fun _ hk => hk.2) (.slice Ao28 t353.length co28)) (fun _ h_ => h_.1)))); (case s2 => exact (Kd.R_reads' HO349.out).2.1); rintro e w64 ⟨rfl, hb⟩; refine qM7 (Kd.R_below (by (with_reducible repeat (first | apply Kd.RqA | apply Kd.RqN | apply Kd.RqD)); exact (Kd.R_mono (Kd.R_far (p := ⟨gb357, 1, none⟩) (Kd.R_far (p := ⟨gb357, 0, none⟩) (Kd.R_types HO342.out BK357.out (by decide)) (fun _ hk => hk.2) (.int .i64 t352)) (fun _ hk => hk.2) (.slice Ao28 t353.length co28)) (fun _ h_ => h_.1))) hb) (Kd.R_below (by (with_reducible repeat (first | apply Kd.RqA | apply Kd.RqN | apply Kd.RqD)); exact (Kd.R_mono (Kd.R_far (p := ⟨gb357, 1, none⟩) (Kd.R_far (p := ⟨gb357, 0, none⟩) (Kd.R_types HO349.out BK357.out (by decide)) (fun _ hk => hk.2) (.int .i64 t352)) (fun _ hk => hk.2) (.slice Ao28 t353.length co28)) (fun _ h_ => h_.1))) hb) (Kd.R_below (by (with_reducible repeat (first | apply Kd.RqA | apply Kd.RqN | apply Kd.RqD)); exact (Kd.R_mono (Kd.R_far (p := ⟨gb357, 1, none⟩) (Kd.R_far (p := ⟨gb357, 0, none⟩) (Kd.R_types HO355.out BK357.out (by decide)) (fun _ hk => hk.2) (.int .i64 t352)) (fun _ hk => hk.2) (.slice Ao28 t353.length co28)) (fun _ h_ => h_.1))) hb) (kQB (g := gb343) (o := .cells #[.int .i64 t339, .slice Ao14 t340.length co14] 27 (0, 0)) (by (with_reducible repeat (first | refine kQN ?_ _ | refine kQD ?_ | refine kQA ?_ _)); refine kQR ?_ NB343_357.out _; (with_reducible repeat (first | refine kQN ?_ _ | refine kQD ?_ | refine kQA ?_ _)); refine kQR ?_ NB343_357.out _; (with_reducible repeat (first | refine kQN ?_ _ | refine kQD ?_ | refine kQA ?_ _)); exact BK343.out) hb) (kQB (g := gb351) (o := .cells #[.int .i64 t346, .slice Ao21 t347.length co21] 27 (0, 0)) (by (with_reducible repeat (first | refine kQN ?_ _ | refine kQD ?_ | refine kQA ?_ _)); refine kQR ?_ NB351_357.out _; (with_reducible repeat (first | refine kQN ?_ _ | refine kQD ?_ | refine kQA ?_ _)); refine kQR ?_ NB351_357.out _; (with_reducible repeat (first | refine kQN ?_ _ | refine kQD ?_ | refine kQA ?_ _)); exact BK351.out) hb) (kQB (g := gb357) (o := .cells #[.int .i64 t352, .slice Ao28 t353.length co28] 27 (0, 0)) (by (with_reducible repeat (first | refine kQN ?_ _ | refine kQD ?_ | refine kQA ?_ _)); refine kQP (cs := #[.int .i64 t352, .slice none 0 0]) ?_ 1 _ rfl; (with_reducible repeat (first | refine kQN ?_ _ | refine kQD ?_ | refine kQA ?_ _)); refine kQP (cs := #[.int .i64 0, .slice none 0 0]) ?_ 0 _ rfl; (with_reducible repeat (first | refine kQN ?_ _ | refine kQD ?_ | refine kQA ?_ _)); exact BK357.out) hb) (bQT tB hb) ?_; clear HO342 HO349 HO355 BK343 BK351 BK357 HB; intro HO342 HO349 HO355 BK343 BK351 BK357 HB; (try clear hb); (try clear hb2); (try clear hk); (try clear hi)))
  go_meet
  case rel => exact ⟨_, (true), tS, H', ⟨tO⟩, ⟨by (with_reducible repeat (first | apply Kd.RqA | apply Kd.RqN | apply Kd.RqD)); exact Kd.R_mono HO342.out (fun _ hk => ⟨hk.1.2, hk.2⟩)⟩, ⟨by (with_reducible repeat (first | apply Kd.RqA | apply Kd.RqN | apply Kd.RqD)); exact Kd.R_mono HO349.out (fun _ hk => ⟨hk.1.2, hk.2⟩)⟩, ⟨by (with_reducible repeat (first | apply Kd.RqA | apply Kd.RqN | apply Kd.RqD)); exact Kd.R_mono HO355.out (fun _ hk => ⟨hk.1.2, hk.2⟩)⟩, ⟨tG BK343.out⟩, ⟨tG BK351.out⟩, ⟨tG BK357.out⟩, ⟨tB⟩⟩
 subst c33
 rw [if_pos rfl] at H
 obtain ⟨t359, A34, H⟩ := qBd H
 by_cases c35 : t359 = true
 rotate_left
 ·replace c35 := Bool.eq_false_iff.mpr c35
  subst c35
  rw [if_neg (show ¬ (false = true) by decide)] at H
  replace H' := Aq.mk H
  clear H
  have hnb55 := NB351_343.out
  have hnc55 := NB343_351.out
  have hnb56 := NB351_357.out
  have hnc56 := NB357_351.out
  have hcz57_0 : w24.cell? ⟨gb351, 0, none⟩ = some (.int .i64 t346) := (kQC BK351.out 0).trans rfl
  have hcz57_1 : w24.cell? ⟨gb351, 1, none⟩ = some (.slice Ao21 t347.length co21) := (kQC BK351.out 1).trans rfl
  have hfz57_0 := kQF BK351.out 0
  have hfz57_1 := kQF BK351.out 1
  go_wp2_with (first | (go_at_call 13; (with_reducible refine (impl_IsSpace.calls k t346 _ _ t347 true _ ?s1 ?s2 A32.out).mono ?_); (case s1 => refine (Kd.R_reads' (e := 2) (base := w.heap.size) (ok := fun k_ => ((True ∧ some k_ ≠ (.slice Ao14 t340.length co14 : Value).ownBlock) ∧ some k_ ≠ (.slice Ao28 t353.length co28 : Value).ownBlock)) (n := t347.length) (c := co21) ?_).2.2; exact (by (with_reducible repeat (first | apply Kd.RqA | apply Kd.RqN | apply Kd.RqD)); exact (Kd.R_mono (Kd.R_far (p := ⟨gb357, 1, none⟩) (Kd.R_far (p := ⟨gb357, 0, none⟩) (Kd.R_types HO349.out BK357.out (by decide)) (fun _ hk => hk.2) (.int .i64 t352)) (fun _ hk => hk.2) (.slice Ao28 t353.length co28)) (fun _ h_ => h_.1)))); (case s2 => exact (Kd.R_reads' HO349.out).2.1); rintro e w58 ⟨rfl, hb⟩; refine qM7 (Kd.R_below (by (with_reducible repeat (first | apply Kd.RqA | apply Kd.RqN | apply Kd.RqD)); exact (Kd.R_mono (Kd.R_far (p := ⟨gb357, 1, none⟩) (Kd.R_far (p := ⟨gb357, 0, none⟩) (Kd.R_types HO342.out BK357.out (by decide)) (fun _ hk => hk.2) (.int .i64 t352)) (fun _ hk => hk.2) (.slice Ao28 t353.length co28)) (fun _ h_ => h_.1))) hb) (Kd.R_below (by (with_reducible repeat (first | apply Kd.RqA | apply Kd.RqN | apply Kd.RqD)); exact (Kd.R_mono (Kd.R_far (p := ⟨gb357, 1, none⟩) (Kd.R_far (p := ⟨gb357, 0, none⟩) (Kd.R_types HO349.out BK357.out (by decide)) (fun _ hk => hk.2) (.int .i64 t352)) (fun _ hk => hk.2) (.slice Ao28 t353.length co28)) (fun _ h_ => h_.1))) hb) (Kd.R_below (by (with_reducible repeat (first | apply Kd.RqA | apply Kd.RqN | apply Kd.RqD)); exact (Kd.R_mono (Kd.R_far (p := ⟨gb357, 1, none⟩) (Kd.R_far (p := ⟨gb357, 0, none⟩) (Kd.R_types HO355.out BK357.out (by decide)) (fun _ hk => hk.2) (.int .i64 t352)) (fun _ hk => hk.2) (.slice Ao28 t353.length co28)) (fun _ h_ => h_.1))) hb) (kQB (g := gb343) (o := .cells #[.int .i64 t339, .slice Ao14 t340.length co14] 27 (0, 0)) (by (with_reducible repeat (first | refine kQN ?_ _ | refine kQD ?_ | refine kQA ?_ _)); refine kQR ?_ NB343_357.out _; (with_reducible repeat (first | refine kQN ?_ _ | refine kQD ?_ | refine kQA ?_ _)); refine kQR ?_ NB343_357.out _; (with_reducible repeat (first | refine kQN ?_ _ | refine kQD ?_ | refine kQA ?_ _)); exact BK343.out) hb) (kQB (g := gb351) (o := .cells #[.int .i64 t346, .slice Ao21 t347.length co21] 27 (0, 0)) (by (with_reducible repeat (first | refine kQN ?_ _ | refine kQD ?_ | refine kQA ?_ _)); refine kQR ?_ NB351_357.out _; (with_reducible repeat (first | refine kQN ?_ _ | refine kQD ?_ | refine kQA ?_ _)); refine kQR ?_ NB351_357.out _; (with_reducible repeat (first | refine kQN ?_ _ | refine kQD ?_ | refine kQA ?_ _)); exact BK351.out) hb) (kQB (g := gb357) (o := .cells #[.int .i64 t352, .slice Ao28 t353.length co28] 27 (0, 0)) (by (with_reducible repeat (first | refine kQN ?_ _ | refine kQD ?_ | refine kQA ?_ _)); refine kQP (cs := #[.int .i64 t352, .slice none 0 0]) ?_ 1 _ rfl; (with_reducible repeat (first | refine kQN ?_ _ | refine kQD ?_ | refine kQA ?_ _)); refine kQP (cs := #[.int .i64 0, .slice none 0 0]) ?_ 0 _ rfl; (with_reducible repeat (first | refine kQN ?_ _ | refine kQD ?_ | refine kQA ?_ _)); exact BK357.out) hb) (bQT tB hb) ?_; clear HO342 HO349 HO355 BK343 BK351 BK357 HB; intro HO342 HO349 HO355 BK343 BK351 BK357 HB; (try clear hb); (try clear hb2); (try clear hk); (try clear hi); have hcz59_0 : w58.cell? ⟨gb351, 0, none⟩ = some (.int .i64 t346) := (kQC BK351.out 0).trans rfl; have hcz59_1 : w58.cell? ⟨gb351, 1, none⟩ = some (.slice Ao21 t347.length co21) := (kQC BK351.out 1).trans rfl; have hfz59_0 := kQF BK351.out 0; have hfz59_1 := kQF BK351.out 1) | (go_at_call 14; (with_reducible refine (spec_IsSpace.calls k t346 _ _ t347 false _ ?s1 ?s2 A34.out).mono ?_); (case s1 => exact tC ((Kd.R_reads' HO349.out).2.2)); (case s2 => exact (Kd.R_reads' HO349.out).2.1); rintro e w60 ⟨rfl, hb⟩; refine qM7 (Kd.R_below (tR HO342.out) hb) (Kd.R_below (tR HO349.out) hb) (Kd.R_below (tR HO355.out) hb) (tQ BK343.out hb) (tQ BK351.out hb) (tQ BK357.out hb) (bQT tB hb) ?_; clear HO342 HO349 HO355 BK343 BK351 BK357 HB; intro HO342 HO349 HO355 BK343 BK351 BK357 HB; (try clear hb); (try clear hb2); (try clear hk); (try clear hi)))
  go_meet
  case rel => exact ⟨_, (true), tS, H', ⟨tO⟩, ⟨by (with_reducible repeat (first | apply Kd.RqA | apply Kd.RqN | apply Kd.RqD)); exact Kd.R_mono HO342.out (fun _ hk => ⟨hk.1.2, hk.2⟩)⟩, ⟨by (with_reducible repeat (first | apply Kd.RqA | apply Kd.RqN | apply Kd.RqD)); exact Kd.R_mono HO349.out (fun _ hk => ⟨hk.1.2, hk.2⟩)⟩, ⟨by (with_reducible repeat (first | apply Kd.RqA | apply Kd.RqN | apply Kd.RqD)); exact Kd.R_mono HO355.out (fun _ hk => ⟨hk.1.2, hk.2⟩)⟩, ⟨tG BK343.out⟩, ⟨tG BK351.out⟩, ⟨tG BK357.out⟩, ⟨tB⟩⟩
 subst c35
 rw [if_pos rfl] at H
 by_cases c36 : (t347.length : Int) = t344
 rotate_left
 ·rw [if_neg c36] at H
  have c36b0 := beq_eq_false_iff_ne.mpr c36
  have c36b1 := bne_iff_ne.mpr c36
  replace H' := Aq.mk H
  clear H
  have hnb48 := NB351_343.out
  have hnc48 := NB343_351.out
  have hnb49 := NB351_357.out
  have hnc49 := NB357_351.out
  have hcz50_0 : w24.cell? ⟨gb351, 0, none⟩ = some (.int .i64 t346) := (kQC BK351.out 0).trans rfl
  have hcz50_1 : w24.cell? ⟨gb351, 1, none⟩ = some (.slice Ao21 t347.length co21) := (kQC BK351.out 1).trans rfl
  have hfz50_0 := kQF BK351.out 0
  have hfz50_1 := kQF BK351.out 1
  go_wp2_with (first | (go_at_call 13; (with_reducible refine (impl_IsSpace.calls k t346 _ _ t347 true _ ?s1 ?s2 A32.out).mono ?_); (case s1 => refine (Kd.R_reads' (e := 2) (base := w.heap.size) (ok := fun k_ => ((True ∧ some k_ ≠ (.slice Ao14 t340.length co14 : Value).ownBlock) ∧ some k_ ≠ (.slice Ao28 t353.length co28 : Value).ownBlock)) (n := t347.length) (c := co21) ?_).2.2; exact (by (with_reducible repeat (first | apply Kd.RqA | apply Kd.RqN | apply Kd.RqD)); exact (Kd.R_mono (Kd.R_far (p := ⟨gb357, 1, none⟩) (Kd.R_far (p := ⟨gb357, 0, none⟩) (Kd.R_types HO349.out BK357.out (by decide)) (fun _ hk => hk.2) (.int .i64 t352)) (fun _ hk => hk.2) (.slice Ao28 t353.length co28)) (fun _ h_ => h_.1)))); (case s2 => exact (Kd.R_reads' HO349.out).2.1); rintro e w51 ⟨rfl, hb⟩; refine qM7 (Kd.R_below (by (with_reducible repeat (first | apply Kd.RqA | apply Kd.RqN | apply Kd.RqD)); exact (Kd.R_mono (Kd.R_far (p := ⟨gb357, 1, none⟩) (Kd.R_far (p := ⟨gb357, 0, none⟩) (Kd.R_types HO342.out BK357.out (by decide)) (fun _ hk => hk.2) (.int .i64 t352)) (fun _ hk => hk.2) (.slice Ao28 t353.length co28)) (fun _ h_ => h_.1))) hb) (Kd.R_below (by (with_reducible repeat (first | apply Kd.RqA | apply Kd.RqN | apply Kd.RqD)); exact (Kd.R_mono (Kd.R_far (p := ⟨gb357, 1, none⟩) (Kd.R_far (p := ⟨gb357, 0, none⟩) (Kd.R_types HO349.out BK357.out (by decide)) (fun _ hk => hk.2) (.int .i64 t352)) (fun _ hk => hk.2) (.slice Ao28 t353.length co28)) (fun _ h_ => h_.1))) hb) (Kd.R_below (by (with_reducible repeat (first | apply Kd.RqA | apply Kd.RqN | apply Kd.RqD)); exact (Kd.R_mono (Kd.R_far (p := ⟨gb357, 1, none⟩) (Kd.R_far (p := ⟨gb357, 0, none⟩) (Kd.R_types HO355.out BK357.out (by decide)) (fun _ hk => hk.2) (.int .i64 t352)) (fun _ hk => hk.2) (.slice Ao28 t353.length co28)) (fun _ h_ => h_.1))) hb) (kQB (g := gb343) (o := .cells #[.int .i64 t339, .slice Ao14 t340.length co14] 27 (0, 0)) (by (with_reducible repeat (first | refine kQN ?_ _ | refine kQD ?_ | refine kQA ?_ _)); refine kQR ?_ NB343_357.out _; (with_reducible repeat (first | refine kQN ?_ _ | refine kQD ?_ | refine kQA ?_ _)); refine kQR ?_ NB343_357.out _; (with_reducible repeat (first | refine kQN ?_ _ | refine kQD ?_ | refine kQA ?_ _)); exact BK343.out) hb) (kQB (g := gb351) (o := .cells #[.int .i64 t346, .slice Ao21 t347.length co21] 27 (0, 0)) (by (with_reducible repeat (first | refine kQN ?_ _ | refine kQD ?_ | refine kQA ?_ _)); refine kQR ?_ NB351_357.out _; (with_reducible repeat (first | refine kQN ?_ _ | refine kQD ?_ | refine kQA ?_ _)); refine kQR ?_ NB351_357.out _; (with_reducible repeat (first | refine kQN ?_ _ | refine kQD ?_ | refine kQA ?_ _)); exact BK351.out) hb) (kQB (g := gb357) (o := .cells #[.int .i64 t352, .slice Ao28 t353.length co28] 27 (0, 0)) (by (with_reducible repeat (first | refine kQN ?_ _ | refine kQD ?_ | refine kQA ?_ _)); refine kQP (cs := #[.int .i64 t352, .slice none 0 0]) ?_ 1 _ rfl; (with_reducible repeat (first | refine kQN ?_ _ | refine kQD ?_ | refine kQA ?_ _)); refine kQP (cs := #[.int .i64 0, .slice none 0 0]) ?_ 0 _ rfl; (with_reducible repeat (first | refine kQN ?_ _ | refine kQD ?_ | refine kQA ?_ _)); exact BK357.out) hb) (bQT tB hb) ?_; clear HO342 HO349 HO355 BK343 BK351 BK357 HB; intro HO342 HO349 HO355 BK343 BK351 BK357 HB; (try clear hb); (try clear hb2); (try clear hk); (try clear hi); have hcz52_0 : w51.cell? ⟨gb351, 0, none⟩ = some (.int .i64 t346) := (kQC BK351.out 0).trans rfl; have hcz52_1 : w51.cell? ⟨gb351, 1, none⟩ = some (.slice Ao21 t347.length co21) := (kQC BK351.out 1).trans rfl; have hfz52_0 := kQF BK351.out 0; have hfz52_1 := kQF BK351.out 1) | (go_at_call 14; (with_reducible refine (spec_IsSpace.calls k t346 _ _ t347 true _ ?s1 ?s2 A34.out).mono ?_); (case s1 => exact tC ((Kd.R_reads' HO349.out).2.2)); (case s2 => exact (Kd.R_reads' HO349.out).2.1); rintro e w53 ⟨rfl, hb⟩; refine qM7 (Kd.R_below (tR HO342.out) hb) (Kd.R_below (tR HO349.out) hb) (Kd.R_below (tR HO355.out) hb) (tQ BK343.out hb) (tQ BK351.out hb) (tQ BK357.out hb) (bQT tB hb) ?_; clear HO342 HO349 HO355 BK343 BK351 BK357 HB; intro HO342 HO349 HO355 BK343 BK351 BK357 HB; (try clear hb); (try clear hb2); (try clear hk); (try clear hi); have hcz54_0 : w53.cell? ⟨gb351, 0, none⟩ = some (.int .i64 t346) := (kQC BK351.out 0).trans rfl; have hcz54_1 : w53.cell? ⟨gb351, 1, none⟩ = some (.slice Ao21 t347.length co21) := (kQC BK351.out 1).trans rfl; have hfz54_0 := kQF BK351.out 0; have hfz54_1 := kQF BK351.out 1))
  go_meet
  case rel => exact ⟨_, (true), tS, H', ⟨tO⟩, ⟨by (with_reducible repeat (first | apply Kd.RqA | apply Kd.RqN | apply Kd.RqD)); exact Kd.R_mono HO342.out (fun _ hk => ⟨hk.1.2, hk.2⟩)⟩, ⟨by (with_reducible repeat (first | apply Kd.RqA | apply Kd.RqN | apply Kd.RqD)); exact Kd.R_mono HO349.out (fun _ hk => ⟨hk.1.2, hk.2⟩)⟩, ⟨by (with_reducible repeat (first | apply Kd.RqA | apply Kd.RqN | apply Kd.RqD)); exact Kd.R_mono HO355.out (fun _ hk => ⟨hk.1.2, hk.2⟩)⟩, ⟨tG BK343.out⟩, ⟨tG BK351.out⟩, ⟨tG BK357.out⟩, ⟨tB⟩⟩
 rw [if_pos c36] at H
 have c36b0 := beq_iff_eq.mpr c36
 have c36b1 := bne_eq_false_iff_eq.mpr c36
 clear c36
 obtain ⟨t360, A37, H⟩ := qBd H
 replace H' := Aq.mk H
 clear H
 have hnb38 := NB351_343.out
 have hnc38 := NB343_351.out
 have hnb39 := NB351_357.out
 have hnc39 := NB357_351.out
 have hcz40_0 : w24.cell? ⟨gb351, 0, none⟩ = some (.int .i64 t346) := (kQC BK351.out 0).trans rfl
 have hcz40_1 : w24.cell? ⟨gb351, 1, none⟩ = some (.slice Ao21 t347.length co21) := (kQC BK351.out 1).trans rfl
 have hfz40_0 := kQF BK351.out 0
 have hfz40_1 := kQF BK351.out 1
 go_wp2_with (first | (go_at_call 13; (with_reducible refine (impl_IsSpace.calls k t346 _ _ t347 true _ ?s1 ?s2 A32.out).mono ?_); (case s1 => refine (Kd.R_reads' (e := 2) (base := w.heap.size) (ok := fun k_ => ((True ∧ some k_ ≠ (.slice Ao14 t340.length co14 : Value).ownBlock) ∧ some k_ ≠ (.slice Ao28 t353.length co28 : Value).ownBlock)) (n := t347.length) (c := co21) ?_).2.2; exact (by (with_reducible repeat (first | apply Kd.RqA | apply Kd.RqN | apply Kd.RqD)); exact (Kd.R_mono (Kd.R_far (p := ⟨gb357, 1, none⟩) (Kd.R_far (p := ⟨gb357, 0, none⟩) (Kd.R_types HO349.out BK357.out (by decide)) (fun _ hk => hk.2) (.int .i64 t352)) (fun _ hk => hk.2) (.slice Ao28 t353.length co28)) (fun _ h_ => h_.1)))); (case s2 => exact (Kd.R_reads' HO349.out).2.1); rintro e w41 ⟨rfl, hb⟩; refine qM7 (Kd.R_below (by (with_reducible repeat (first | apply Kd.RqA | apply Kd.RqN | apply Kd.RqD)); exact (Kd.R_mono (Kd.R_far (p := ⟨gb357, 1, none⟩) (Kd.R_far (p := ⟨gb357, 0, none⟩) (Kd.R_types HO342.out BK357.out (by decide)) (fun _ hk => hk.2) (.int .i64 t352)) (fun _ hk => hk.2) (.slice Ao28 t353.length co28)) (fun _ h_ => h_.1))) hb) (Kd.R_below (by (with_reducible repeat (first | apply Kd.RqA | apply Kd.RqN | apply Kd.RqD)); exact (Kd.R_mono (Kd.R_far (p := ⟨gb357, 1, none⟩) (Kd.R_far (p := ⟨gb357, 0, none⟩) (Kd.R_types HO349.out BK357.out (by decide)) (fun _ hk => hk.2) (.int .i64 t352)) (fun _ hk => hk.2) (.slice Ao28 t353.length co28)) (fun _ h_ => h_.1))) hb) (Kd.R_below (by (with_reducible repeat (first | apply Kd.RqA | apply Kd.RqN | apply Kd.RqD)); exact (Kd.R_mono (Kd.R_far (p := ⟨gb357, 1, none⟩) (Kd.R_far (p := ⟨gb357, 0, none⟩) (Kd.R_types HO355.out BK357.out (by decide)) (fun _ hk => hk.2) (.int .i64 t352)) (fun _ hk => hk.2) (.slice Ao28 t353.length co28)) (fun _ h_ => h_.1))) hb) (kQB (g := gb343) (o := .cells #[.int .i64 t339, .slice Ao14 t340.length co14] 27 (0, 0)) (by (with_reducible repeat (first | refine kQN ?_ _ | refine kQD ?_ | refine kQA ?_ _)); refine kQR ?_ NB343_357.out _; (with_reducible repeat (first | refine kQN ?_ _ | refine kQD ?_ | refine kQA ?_ _)); refine kQR ?_ NB343_357.out _; (with_reducible repeat (first | refine kQN ?_ _ | refine kQD ?_ | refine kQA ?_ _)); exact BK343.out) hb) (kQB (g := gb351) (o := .cells #[.int .i64 t346, .slice Ao21 t347.length co21] 27 (0, 0)) (by (with_reducible repeat (first | refine kQN ?_ _ | refine kQD ?_ | refine kQA ?_ _)); refine kQR ?_ NB351_357.out _; (with_reducible repeat (first | refine kQN ?_ _ | refine kQD ?_ | refine kQA ?_ _)); refine kQR ?_ NB351_357.out _; (with_reducible repeat (first | refine kQN ?_ _ | refine kQD ?_ | refine kQA ?_ _)); exact BK351.out) hb) (kQB (g := gb357) (o := .cells #[.int .i64 t352, .slice Ao28 t353.length co28] 27 (0, 0)) (by (with_reducible repeat (first | refine kQN ?_ _ | refine kQD ?_ | refine kQA ?_ _)); refine kQP (cs := #[.int .i64 t352, .slice none 0 0]) ?_ 1 _ rfl; (with_reducible repeat (first | refine kQN ?_ _ | refine kQD ?_ | refine kQA ?_ _)); refine kQP (cs := #[.int .i64 0, .slice none 0 0]) ?_ 0 _ rfl; (with_reducible repeat (first | refine kQN ?_ _ | refine kQD ?_ | refine kQA ?_ _)); exact BK357.out) hb) (bQT tB hb) ?_; clear HO342 HO349 HO355 BK343 BK351 BK357 HB; intro HO342 HO349 HO355 BK343 BK351 BK357 HB; (try clear hb); (try clear hb2); (try clear hk); (try clear hi); have hcz42_0 : w41.cell? ⟨gb351, 0, none⟩ = some (.int .i64 t346) := (kQC BK351.out 0).trans rfl; have hcz42_1 : w41.cell? ⟨gb351, 1, none⟩ = some (.slice Ao21 t347.length co21) := (kQC BK351.out 1).trans rfl; have hfz42_0 := kQF BK351.out 0; have hfz42_1 := kQF BK351.out 1) | (go_at_call 14; (with_reducible refine (spec_IsSpace.calls k t346 _ _ t347 true _ ?s1 ?s2 A34.out).mono ?_); (case s1 => exact tC ((Kd.R_reads' HO349.out).2.2)); (case s2 => exact (Kd.R_reads' HO349.out).2.1); rintro e w43 ⟨rfl, hb⟩; refine qM7 (Kd.R_below (tR HO342.out) hb) (Kd.R_below (tR HO349.out) hb) (Kd.R_below (tR HO355.out) hb) (tQ BK343.out hb) (tQ BK351.out hb) (tQ BK357.out hb) (bQT tB hb) ?_; clear HO342 HO349 HO355 BK343 BK351 BK357 HB; intro HO342 HO349 HO355 BK343 BK351 BK357 HB; (try clear hb); (try clear hb2); (try clear hk); (try clear hi); have hcz44_0 : w43.cell? ⟨gb351, 0, none⟩ = some (.int .i64 t346) := (kQC BK351.out 0).trans rfl; have hcz44_1 : w43.cell? ⟨gb351, 1, none⟩ = some (.slice Ao21 t347.length co21) := (kQC BK351.out 1).trans rfl; have hfz44_0 := kQF BK351.out 0; have hfz44_1 := kQF BK351.out 1; have hnb45 := NB357_343.out; have hnc45 := NB343_357.out; have hcz46_0 : w43.cell? ⟨gb357, 0, none⟩ = some (.int .i64 t352) := (kQC BK357.out 0).trans rfl; have hcz46_1 : w43.cell? ⟨gb357, 1, none⟩ = some (.slice Ao28 t353.length co28) := (kQC BK357.out 1).trans rfl; have hfz46_0 := kQF BK357.out 0; have hfz46_1 := kQF BK357.out 1) | (go_at_call 15; (with_reducible refine (spec_SameMatrix.calls k t346 _ _ t347 t352 _ _ t353 t360 _ ?s1 ?s2 ?s3 ?s4 A37.out).mono ?_); (case s1 => exact tC ((Kd.R_reads' HO349.out).2.2)); (case s2 => exact (Kd.R_reads' HO349.out).2.1); (case s3 => exact tC ((Kd.R_reads' HO355.out).2.2)); (case s4 => exact (Kd.R_reads' HO355.out).2.1); rintro e w47 ⟨rfl, hb⟩; refine qM7 (Kd.R_below (tR HO342.out) hb) (Kd.R_below (tR HO349.out) hb) (Kd.R_below (tR HO355.out) hb) (tQ BK343.out hb) (tQ BK351.out hb) (tQ BK357.out hb) (bQT tB hb) ?_; clear HO342 HO349 HO355 BK343 BK351 BK357 HB; intro HO342 HO349 HO355 BK343 BK351 BK357 HB; (try clear hb); (try clear hb2); (try clear hk); (try clear hi)))
 go_meet
 case rel => exact ⟨_, (!t360), tS, H', ⟨tO⟩, ⟨by (with_reducible repeat (first | apply Kd.RqA | apply Kd.RqN | apply Kd.RqD)); exact Kd.R_mono HO342.out (fun _ hk => ⟨hk.1.2, hk.2⟩)⟩, ⟨by (with_reducible repeat (first | apply Kd.RqA | apply Kd.RqN | apply Kd.RqD)); exact Kd.R_mono HO349.out (fun _ hk => ⟨hk.1.2, hk.2⟩)⟩, ⟨by (with_reducible repeat (first | apply Kd.RqA | apply Kd.RqN | apply Kd.RqD)); exact Kd.R_mono HO355.out (fun _ hk => ⟨hk.1.2, hk.2⟩)⟩, ⟨tG BK343.out⟩, ⟨tG BK351.out⟩, ⟨tG BK357.out⟩, ⟨tB⟩⟩
theorem laws_FnRanks.G2 : laws_FnRanks.G0.2.1 := by
 intro k A0 c0 l0 A1 c1 l1 r w hu27 HR0 HC0 HR1 HC1 za_1_0 A3 za_1_1 t338 A5 za_1_2 t339 t340 A6 za_1_3 t344 t345 A7 za_1_4 t346 t347 t350 A8 za_1_5 t352 t353 t356 A9 za_1_6 za_1_7 za_1_8 nd w11 gb343 w12 GW343 GE343 Ao14 co14 w15 w17 gb351 w18 GW351 GE351 NB343_351 NB351_343 hnb19 hnc19 Ao21 co21 w23 gb357 w24 za_1_9 za_1_10 za_1_11 za_1_12 GW357 GE357 NB343_357 NB357_343 NB351_357 NB357_351 hnb25 hnc25 hnb26 hnc26 Ao28 co28 HO342 HO349 HO355 wc u41 u42 u43 u44 u45 u46 u47 u48 u49 u50 u51 u52 u53 u54 u55 u56 u57 u58 u59 u60 u61 u62 u63 u64 u65 u66 u67 u68 u69 u70 u71 u72 u73 u74 u75 u76 u77 u78 u79 u80 u81 u82 u83 u84 u85 u86 u87 u88 u89 u90 u91 u92 u93 u94 u95 u96 za_1_13 za_1_14 za_1_15 za_1_16 za_1_17 za_1_18 za_1_19 za_1_20 za_1_21 za_1_22 za_1_23 za_1_24 za_1_25 za_1_26 za_1_27 za_1_28 za_1_29 za_1_30 za_1_31 za_1_32 za_1_33 za_1_34 za_1_35 za_1_36 za_1_37 za_1_38 za_1_39 za_1_40 za_1_41 za_1_42 za_1_43 za_1_44 za_1_45 za_1_46 za_1_47 za_1_48 za_1_49 za_1_50 za_1_51 za_1_52 za_1_53 za_1_54 za_1_55 za_1_56 za_1_57 za_1_58 za_1_59 za_1_60 za_1_61 za_1_62 za_1_63 za_1_64 za_1_65 za_1_66 za_1_67 za_1_68 za_1_69 za_1_70 za_1_71 u157 u158 u159 u160 u161 u162 u163 u164 u165 u166 u167 u168 u169 u170 u171 u172 u173 u174 u175 u176 u177 u178 u179 u180 u181 u182 u183 u184 u185 u186 u187 u188 u189 u190 u191 u192 u193 u194 u195 u196 u197 u198 u199 u200 u201 u202 u203 u204 u205 u206 u207 u208 u209 u210 u211 u212 u213 u214 u215 u216 u217 u218 u219 u220 u221 u222 u223 u224 u225 u226 u227 u228 u229 u230 u231 u232 u233 u234 u235 u236 u237 u238 u239 u240 u241 u242 u243 u244 u245 u246 u247 u248 u249 u250 u251 u252 u253 u254 u255 u256 u257 u258 u259 u260 u261 u262 u263 u264 u265 u266 u267 u268 u269 u270 u271 u272 u273 u274 u275 u276 u277 u278 u279 u280 u281 u282 u283 u284 u285 u286 u287 u288 u289 u290 u291 u292 u293 u294 u295 u296 u297 u298 u299 u300 u301 u302 u303 u304 u305 u306 u307 u308 u309 u310 u311 u312 u313 u314 u315 za_1_72 za_1_73 za_1_74 za_1_75 za_1_76 za_1_77 za_1_78 kj9 HJ9 za_1_79 za_1_80 wr u4 u14 u15 u16 u17 u98 u99 u100 u101 u102 u103 u104 u105 u106 u107 u108 u109 u110 u111 u112 u113 u114 u115 u116 u117 u118 u119 u120 u121 u122 u123 u124 u125 u126 u127 u128 u129 u130 u131 u132 u133 u134 u135 u136 u137 u138 u139 u140 u141 u142 u143 u144 u145 u146 u147 u148 u149 u150 u151 u152 u153 u154 u155 u156 za_1_81 za_1_82 za_1_83 x13_2 HO_344001 HO_352001 HO_358001 BK343 BK351 BK357 HB k2 za_1_84 HK2 H c66
 rw [if_pos c66] at H
 have c66b0 := decide_eq_true c66
 clear c66
 by_cases c67 : 0 ≤ x13_2
 rotate_left
 ·rw [if_neg c67] at H
  exact absurd H (by simp)
 rw [if_pos c67] at H
 have c67b0 := decide_eq_true c67
 clear c67
 obtain ⟨⟨t362, t363⟩, A68, H⟩ := qBd H
 (try dsimp only at H)
 have HC69 := Aq.mk H
 clear H
 have hnb70 := NB343_351.out
 have hnc70 := NB351_343.out
 have hnb71 := NB343_357.out
 have hnc71 := NB357_343.out
 have hcz72_0 : wr.cell? ⟨gb343, 0, none⟩ = some (.int .i64 t339) := (kQC BK343.out 0).trans rfl
 have hcz72_1 : wr.cell? ⟨gb343, 1, none⟩ = some (.slice Ao14 t340.length co14) := (kQC BK343.out 1).trans rfl
 have hfz72_0 := kQF BK343.out 0
 have hfz72_1 := kQF BK343.out 1
 try go_wp2
 have n0_ := Aq.mk (Kd.RqD HO_344001.out)
 have n1_ := Aq.mk (Kd.RqD HO_352001.out)
 have n2_ := Aq.mk (Kd.RqD HO_358001.out)
 have n3_ := Aq.mk (kQD BK343.out)
 have n4_ := Aq.mk (kQD BK351.out)
 have n5_ := Aq.mk (kQD BK357.out)
 have n6_ := Aq.mk (bQ1 HB.out)
 clear HO_344001
 clear HO_352001
 clear HO_358001
 clear BK343
 clear BK351
 clear BK357
 clear HB
 have HO_344001 := n0_
 have HO_352001 := n1_
 have HO_358001 := n2_
 have BK343 := n3_
 have BK351 := n4_
 have BK357 := n5_
 have HB := n6_
 clear n0_ n1_ n2_ n3_ n4_ n5_ n6_
 have p361 : 0 ≤ (x13_2 : Int) := of_decide_eq_true tA
 have q361 : x13_2 < (t340.length : Int) := of_decide_eq_true tA
 obtain ⟨ad361, e361, hx361_0⟩ := Kd.at_int (Kd.R_reads' HO_344001.out).2.2 x13_2 p361 q361
 cases e361
 replace p361 := eq_true p361
 replace q361 := eq_true q361
 refine start_ (n := 12) (S := fun w' => w'.cell? ⟨gb351, 0, none⟩ = some (.int .i64 t346) ∧ w'.cell? ⟨gb351, 1, none⟩ = some (.slice Ao21 t347.length co21) ∧ w'.cell? ⟨gb343, 0, none⟩ = some (.int .i64 t339) ∧ w'.cell? ⟨gb343, 1, none⟩ = some (.slice (some ad361) t340.length co14) ∧ w'.cell? (ad361.add (x13_2).toNat) = some (.int .i64 (rd t340 x13_2))) (ds := []) #[false, false, false, false, false, false, false, false, false, false, false, false] (by kernel_rfl) rfl rfl ⟨(kQC BK351.out 0).trans rfl, (kQC BK351.out 1).trans rfl, (kQC BK343.out 0).trans rfl, (kQC BK343.out 1).trans rfl, hx361_0⟩ (fun hHeld => ?_); refine with_tabW laws_FnRanks.tab13 laws_FnRanks.bits13 (fun HT_ HW_ => ?_)
 generalize wr.drew = w73 at HO_344001 HO_352001 HO_358001 BK343 BK351 BK357 HB hx361_0 hHeld ⊢
 refine tP0 1 107 (bm 12 2) ?_
 refine tP0 3 109 (bm 12 10) ?_
 refine tT5 0 106 (bm 12 11) ?_
 refine tT5 2 108 (bm 12 15) ?_
 refine tP0 4 110 (bm 12 31) ?_
 refine tT5 5 111 (bm 12 63) ?_
 refine one_ (i := 6) (N := some 112) (bm 12 127) rfl rfl (one_of HT_.out (by kernel_rfl)) (by decide) (fun K hK => ?_)
 refine goes_ Try.func16 (by kernel_rfl) rfl #[.agg #[.int .i64 t346, .slice Ao21 t347.length co21], .int .i64 (rd t340 x13_2)] (by rfl) rfl rfl tL ?_
 with_reducible refine (impl_SolveRows.calls k2 t346 (fun k_ => some k_ = (.slice Ao21 t347.length co21 : Value).ownBlock) _ _ t347 (rd t340 x13_2) t362 t363 _ ?s1 A68.out).mono ?_
 (case s1 => exact Kd.R_V (Kd.R_tight rfl (Kd.R_types (Kd.R_types (Kd.R_types (HO_352001.out) BK343.out (by decide)) BK351.out (by decide)) BK357.out (by decide))))
 rintro e w74 ⟨rfl, hb⟩
 have HS4_ := (hb.cell (World.block_lt_of_cell? _ _ (hHeld.2.2.2.2))).trans (hHeld.2.2.2.2)
 refine ⟨_, rfl, ?_⟩
 have n0_ := Aq.mk (Kd.R_below (tR HO_344001.out) hb)
 have n1_ := Aq.mk (Kd.R_below (tR HO_352001.out) hb)
 have n2_ := Aq.mk (Kd.R_below (tR HO_358001.out) hb)
 have n3_ := Aq.mk (tQ BK343.out hb)
 have n4_ := Aq.mk (tQ BK351.out hb)
 have n5_ := Aq.mk (tQ BK357.out hb)
 have n6_ := Aq.mk (bQT tB hb)
 clear HO_344001
 clear HO_352001
 clear HO_358001
 clear BK343
 clear BK351
 clear BK357
 clear HB
 have HO_344001 := n0_
 have HO_352001 := n1_
 have HO_358001 := n2_
 have BK343 := n3_
 have BK351 := n4_
 have BK357 := n5_
 have HB := n6_
 clear n0_ n1_ n2_ n3_ n4_ n5_ n6_
 (try clear hb)
 (try clear hb2)
 (try clear hk)
 (try clear hi)
 refine hK.out _ _ ⟨(kQC BK351.out 0).trans rfl, (kQC BK351.out 1).trans rfl, (kQC BK343.out 0).trans rfl, (kQC BK343.out 1).trans rfl, HS4_⟩ (fun hHeld => ?_)
 clear hK K
 refine tN 112 ?_
 refine tP0 7 105 (bm 12 255) ?_
 refine tP0 8 113 (bm 12 511) ?_
 refine tP0 9 114 (bm 12 1023) ?_
 refine tP0 10 14 (bm 12 2047) ?_
 refine tP0 11 15 (bm 12 4095) ?_
 refine done_ (done_of HT_.out (by kernel_rfl)) ?_
 go_upto_region 14 with (fail)
 go_cut [129] (fun v129 wc => ∃ (kq : Nat) (x129_68 : Bool), v129 = .bool x129_68 ∧ Aq (laws_FnRanks.j2 kq l1 (wrap64 (1 + t338)) t344 x13_2 t362 x129_68 t339 t340 t346 t347 = some r) ∧ Aq (kq ≤ k2) ∧ Aq (Kd.R (Kd.int .i64) 2 wc w.heap.size (fun k_ => some k_ ≠ ((.slice Ao21 t347.length co21) : Value).ownBlock ∧ some k_ ≠ ((.slice Ao28 t353.length co28) : Value).ownBlock) (.slice (some ad361) t340.length co14) t340) ∧ Aq (Kd.R (Kd.int .i64) 2 wc w.heap.size (fun k_ => some k_ ≠ ((.slice (some ad361) t340.length co14) : Value).ownBlock ∧ some k_ ≠ ((.slice Ao28 t353.length co28) : Value).ownBlock) (.slice Ao21 t347.length co21) t347) ∧ Aq (Kd.R (Kd.int .i64) 2 wc w.heap.size (fun k_ => some k_ ≠ ((.slice (some ad361) t340.length co14) : Value).ownBlock ∧ some k_ ≠ ((.slice Ao21 t347.length co21) : Value).ownBlock) (.slice Ao28 t353.length co28) t353) ∧ Aq (wc.heap[gb343]? = some (.cells #[.int .i64 t339, (.slice (some ad361) t340.length co14)] 27 (0, 0))) ∧ Aq (wc.heap[gb351]? = some (.cells #[.int .i64 t346, (.slice Ao21 t347.length co21)] 27 (0, 0))) ∧ Aq (wc.heap[gb357]? = some (.cells #[.int .i64 t352, (.slice Ao28 t353.length co28)] 27 (0, 0))) ∧ Aq (Below w.heap.size w wc))
 case first =>
  have H := HC69.out
  clear HC69
  by_cases c75 : t363 = 0
  rotate_left
  ·rw [if_neg c75] at H
   have c75b0 := beq_eq_false_iff_ne.mpr c75
   have c75b1 := bne_iff_ne.mpr c75
   (first | rw [c75b0] | (simp only [i64_w, i32_w]; rw [c75b0]) | skip)
   replace H' := Aq.mk H
   clear H
   go_wp2
   go_meet
   case rel => exact ⟨_, (true), tS, H', ⟨by have := HJ9.out; have := HK2.out; first | omega | exact Nat.le_refl _⟩, ⟨tR HO_344001.out⟩, ⟨tR HO_352001.out⟩, ⟨tR HO_358001.out⟩, ⟨tG BK343.out⟩, ⟨tG BK351.out⟩, ⟨tG BK357.out⟩, ⟨tB⟩⟩
  rw [if_pos c75] at H
  have c75b0 := beq_iff_eq.mpr c75
  have c75b1 := bne_eq_false_iff_eq.mpr c75
  clear c75
  (first | rw [c75b0] | (simp only [i64_w, i32_w]; rw [c75b0]) | skip)
  by_cases c76 : t362 < 0
  ·rw [if_pos c76] at H
   have c76b0 := decide_eq_true c76
   clear c76
   replace H' := Aq.mk H
   clear H
   go_wp2
   go_meet
   case rel => exact ⟨_, (true), tS, H', ⟨by have := HJ9.out; have := HK2.out; first | omega | exact Nat.le_refl _⟩, ⟨tR HO_344001.out⟩, ⟨tR HO_352001.out⟩, ⟨tR HO_358001.out⟩, ⟨tG BK343.out⟩, ⟨tG BK351.out⟩, ⟨tG BK357.out⟩, ⟨tB⟩⟩
  rw [if_neg c76] at H
  have c76b0 := decide_eq_false c76
  clear c76
  obtain ⟨ji77, hji77⟩ : ∃ j_ : Int, (IntKind.u64.wrap ((t347.length : Int))) = j_ := ⟨_, rfl⟩
  first | rw [hji77] at H | simp only [hji77] at H | skip
  by_cases c78 : 0 ≤ (ji77)
  rotate_left
  ·rw [if_neg c78] at H
   exact absurd H (by simp)
  rw [if_pos c78] at H
  have c78b0 := eq_true c78
  have c78b1 := decide_eq_true c78
  clear c78
  obtain ⟨ji79, hji79⟩ : ∃ j_ : Int, (shl .i64 1 (ji77)) = j_ := ⟨_, rfl⟩
  first | rw [hji79] at H | simp only [hji79] at H | skip
  have hji79_ : (IntKind.i64.wrap (1 * 2 ^ min (ji77).toNat 64)) = ji79 := hji79
  have hji79z : (ji77) ≤ 64 → (IntKind.i64.wrap (1 * 2 ^ (ji77).toNat)) = ji79 := shl_small hji79
  have hji79u : (IntKind.i64.wrap (2 ^ min (ji77).toNat 64)) = ji79 := by have h_ := hji79_; rw [Int.one_mul] at h_; exact h_
  have hji79v : (ji77) ≤ 64 → (IntKind.i64.wrap (2 ^ (ji77).toNat)) = ji79 := fun hle_ => by have h_ := hji79z hle_; rw [Int.one_mul] at h_; exact h_
  have hji79y : (wrap64 (1 * 2 ^ min (ji77).toNat 64)) = ji79 := (i64_w _).symm.trans hji79_
  have hji79x : (ji77) ≤ 64 → (wrap64 (1 * 2 ^ (ji77).toNat)) = ji79 := fun h_ => (i64_w _).symm.trans (hji79z h_)
  replace H' := Aq.mk H
  clear H
  have hnb80 := NB351_343.out
  have hnc80 := NB343_351.out
  have hnb81 := NB351_357.out
  have hnc81 := NB357_351.out
  have hcz82_0 : w74.cell? ⟨gb351, 0, none⟩ = some (.int .i64 t346) := (kQC BK351.out 0).trans rfl
  have hcz82_1 : w74.cell? ⟨gb351, 1, none⟩ = some (.slice Ao21 t347.length co21) := (kQC BK351.out 1).trans rfl
  have hfz82_0 := kQF BK351.out 0
  have hfz82_1 := kQF BK351.out 1
  go_wp2
  go_meet
  case rel => exact ⟨_, (decide (t362 ≥ (ji79))), (by first | rfl | (simp; done) | (simp only [← hji79] <;> (first | rfl | simp)) | (simp [*]; done)), H', ⟨by have := HJ9.out; have := HK2.out; first | omega | exact Nat.le_refl _⟩, ⟨tR HO_344001.out⟩, ⟨tR HO_352001.out⟩, ⟨tR HO_358001.out⟩, ⟨tG BK343.out⟩, ⟨tG BK351.out⟩, ⟨tG BK357.out⟩, ⟨tB⟩⟩
 clear HC69
 try clear c1
 try clear c4
 try clear c29
 try clear c29b0
 try clear c29b1
 try clear c30
 try clear c30b0
 try clear c30b1
 try clear c31
 try clear c31b0
 try clear c31b1
 try clear c33
 try clear c35
 try clear c36
 try clear c36b0
 try clear c36b1
 try clear c65
 try clear c66
 try clear c66b0
 try clear c67
 try clear c67b0
 try clear c75
 try clear c75b0
 try clear c75b1
 try clear c76
 try clear c76b0
 try clear c78
 try clear c78b0
 try clear c78b1
 try clear hcz13_0
 try clear hcz13_1
 try clear hcz16_0
 try clear hcz16_1
 try clear hcz20_0
 try clear hcz20_1
 try clear hcz22_0
 try clear hcz22_1
 try clear hcz27_0
 try clear hcz27_1
 try clear hcz40_0
 try clear hcz40_1
 try clear hcz42_0
 try clear hcz42_1
 try clear hcz44_0
 try clear hcz44_1
 try clear hcz46_0
 try clear hcz46_1
 try clear hcz50_0
 try clear hcz50_1
 try clear hcz52_0
 try clear hcz52_1
 try clear hcz54_0
 try clear hcz54_1
 try clear hcz57_0
 try clear hcz57_1
 try clear hcz59_0
 try clear hcz59_1
 try clear hcz63_0
 try clear hcz63_1
 try clear hcz72_0
 try clear hcz72_1
 try clear hcz82_0
 try clear hcz82_1
 try clear hfz13_0
 try clear hfz13_1
 try clear hfz16_0
 try clear hfz16_1
 try clear hfz20_0
 try clear hfz20_1
 try clear hfz22_0
 try clear hfz22_1
 try clear hfz27_0
 try clear hfz27_1
 try clear hfz40_0
 try clear hfz40_1
 try clear hfz42_0
 try clear hfz42_1
 try clear hfz44_0
 try clear hfz44_1
 try clear hfz46_0
 try clear hfz46_1
 try clear hfz50_0
 try clear hfz50_1
 try clear hfz52_0
 try clear hfz52_1
 try clear hfz54_0
 try clear hfz54_1
 try clear hfz57_0
 try clear hfz57_1
 try clear hfz59_0
 try clear hfz59_1
 try clear hfz63_0
 try clear hfz63_1
 try clear hfz72_0
 try clear hfz72_1
 try clear hfz82_0
 try clear hfz82_1
 try clear hx361_0
 try clear p361
 try clear q361
 obtain ⟨kq, x129_68, rfl, HA, HJ68, HO_344001, HO_352001, HO_358001, BK343, BK351, BK357, HB⟩ := hcut
 cases kq with
 | zero => exact absurd HA.out (by simp [laws_FnRanks.j2])
 | succ kj68 =>
  have H := HA.out
  clear HA
  simp only [laws_FnRanks.j2] at H
  by_cases c83 : x129_68 = true
  ·subst c83
   rw [if_pos rfl] at H
   obtain rfl := Option.some.inj H
   go_wp2
   go_ret
   exact ⟨tE, tB⟩
  replace c83 := Bool.eq_false_iff.mpr c83
  subst c83
  rw [if_neg (show ¬ (false = true) by decide)] at H
  replace H' := Aq.mk H
  clear H
  go_wp2
  go_loopg [16, 17] kj68 (fun kq v16 v17 w' => ∃ (x16_4 : Int) (x17_4 : Int), v16 = .int .i64 x16_4 ∧ v17 = .int .i64 x17_4 ∧ Aq (laws_FnRanks.l1 kq l1 (wrap64 (1 + t338)) t344 x13_2 t362 x16_4 x17_4 t339 t340 t346 t347 = some r) ∧ Aq (kq ≤ kj68) ∧ Aq (Kd.R (Kd.int .i64) 2 w' w.heap.size (fun k_ => some k_ ≠ ((.slice Ao21 t347.length co21) : Value).ownBlock ∧ some k_ ≠ ((.slice Ao28 t353.length co28) : Value).ownBlock) (.slice (some ad361) t340.length co14) t340) ∧ Aq (Kd.R (Kd.int .i64) 2 w' w.heap.size (fun k_ => some k_ ≠ ((.slice (some ad361) t340.length co14) : Value).ownBlock ∧ some k_ ≠ ((.slice Ao28 t353.length co28) : Value).ownBlock) (.slice Ao21 t347.length co21) t347) ∧ Aq (Kd.R (Kd.int .i64) 2 w' w.heap.size (fun k_ => some k_ ≠ ((.slice (some ad361) t340.length co14) : Value).ownBlock ∧ some k_ ≠ ((.slice Ao21 t347.length co21) : Value).ownBlock) (.slice Ao28 t353.length co28) t353) ∧ Aq (w'.heap[gb343]? = some (.cells #[.int .i64 t339, (.slice (some ad361) t340.length co14)] 27 (0, 0))) ∧ Aq (w'.heap[gb351]? = some (.cells #[.int .i64 t346, (.slice Ao21 t347.length co21)] 27 (0, 0))) ∧ Aq (w'.heap[gb357]? = some (.cells #[.int .i64 t352, (.slice Ao28 t353.length co28)] 27 (0, 0))) ∧ Aq (Below w.heap.size w w'))
  case atStart => exact ⟨(0), (0), tS, tS, H', ⟨Nat.le_refl _⟩, ⟨tR HO_344001.out⟩, ⟨tR HO_352001.out⟩, ⟨tR HO_358001.out⟩, ⟨tG BK343.out⟩, ⟨tG BK351.out⟩, ⟨tG BK357.out⟩, ⟨tB⟩⟩
  clear H'
  try clear c1
  try clear c4
  try clear c29
  try clear c29b0
  try clear c29b1
  try clear c30
  try clear c30b0
  try clear c30b1
  try clear c31
  try clear c31b0
  try clear c31b1
  try clear c33
  try clear c35
  try clear c36
  try clear c36b0
  try clear c36b1
  try clear c65
  try clear c66
  try clear c66b0
  try clear c67
  try clear c67b0
  try clear c75
  try clear c75b0
  try clear c75b1
  try clear c76
  try clear c76b0
  try clear c78
  try clear c78b0
  try clear c78b1
  try clear c83
  try clear hcz13_0
  try clear hcz13_1
  try clear hcz16_0
  try clear hcz16_1
  try clear hcz20_0
  try clear hcz20_1
  try clear hcz22_0
  try clear hcz22_1
  try clear hcz27_0
  try clear hcz27_1
  try clear hcz40_0
  try clear hcz40_1
  try clear hcz42_0
  try clear hcz42_1
  try clear hcz44_0
  try clear hcz44_1
  try clear hcz46_0
  try clear hcz46_1
  try clear hcz50_0
  try clear hcz50_1
  try clear hcz52_0
  try clear hcz52_1
  try clear hcz54_0
  try clear hcz54_1
  try clear hcz57_0
  try clear hcz57_1
  try clear hcz59_0
  try clear hcz59_1
  try clear hcz63_0
  try clear hcz63_1
  try clear hcz72_0
  try clear hcz72_1
  try clear hcz82_0
  try clear hcz82_1
  try clear hfz13_0
  try clear hfz13_1
  try clear hfz16_0
  try clear hfz16_1
  try clear hfz20_0
  try clear hfz20_1
  try clear hfz22_0
  try clear hfz22_1
  try clear hfz27_0
  try clear hfz27_1
  try clear hfz40_0
  try clear hfz40_1
  try clear hfz42_0
  try clear hfz42_1
  try clear hfz44_0
  try clear hfz44_1
  try clear hfz46_0
  try clear hfz46_1
  try clear hfz50_0
  try clear hfz50_1
  try clear hfz52_0
  try clear hfz52_1
  try clear hfz54_0
  try clear hfz54_1
  try clear hfz57_0
  try clear hfz57_1
  try clear hfz59_0
  try clear hfz59_1
  try clear hfz63_0
  try clear hfz63_1
  try clear hfz72_0
  try clear hfz72_1
  try clear hfz82_0
  try clear hfz82_1
  try clear hx361_0
  try clear p361
  try clear q361
  obtain ⟨x16_4, x17_4, rfl, rfl, HA, HK4, HO_344001, HO_352001, HO_358001, BK343, BK351, BK357, HB⟩ := hrel
  cases gk with
  | zero => exact absurd HA.out (by simp [laws_FnRanks.l1])
  | succ k4 =>
   have H := HA.out
   clear HA
   simp only [laws_FnRanks.l1] at H
   by_cases c84 : x17_4 < (t347.length : Int)
   ·rw [if_pos c84] at H
    have c84b0 := decide_eq_true c84
    clear c84
    obtain ⟨ji85, hji85⟩ : ∃ j_ : Int, (IntKind.u64.wrap (x17_4)) = j_ := ⟨_, rfl⟩
    first | rw [hji85] at H | simp only [hji85] at H | skip
    by_cases c86 : 0 ≤ (ji85)
    rotate_left
    ·rw [if_neg c86] at H
     exact absurd H (by simp)
    rw [if_pos c86] at H
    have c86b0 := eq_true c86
    have c86b1 := decide_eq_true c86
    clear c86
    obtain ⟨ji87, hji87⟩ : ∃ j_ : Int, (shr .i64 t362 (ji85)) = j_ := ⟨_, rfl⟩
    first | rw [hji87] at H | simp only [hji87] at H | skip
    have hji87_ : (t362 / 2 ^ min (ji85).toNat 64) = ji87 := hji87
    have hji87z : (ji85) ≤ 64 → (t362 / 2 ^ (ji85).toNat) = ji87 := shr_small hji87
    by_cases c88 : (Go.bits .and .i64 (ji87) 1) = 1
    rotate_left
    ·rw [if_neg c88] at H
     have c88b0 := beq_eq_false_iff_ne.mpr c88
     have c88b1 := bne_iff_ne.mpr c88
     replace H' := Aq.mk H
     clear H
     have hnb93 := NB351_343.out
     have hnc93 := NB343_351.out
     have hnb94 := NB351_357.out
     have hnc94 := NB357_351.out
     have hcz95_0 : wr.cell? ⟨gb351, 0, none⟩ = some (.int .i64 t346) := (kQC BK351.out 0).trans rfl
     have hcz95_1 : wr.cell? ⟨gb351, 1, none⟩ = some (.slice Ao21 t347.length co21) := (kQC BK351.out 1).trans rfl
     have hfz95_0 := kQF BK351.out 0
     have hfz95_1 := kQF BK351.out 1
     go_wp2
     go_roundg k4
     case measure => have := HJ9.out; have := HK2.out; have := HJ68.out; have := HK4.out; omega
     case rel => exact ⟨(x16_4), (wrap64 (x17_4 + 1)), tS, tS, H', ⟨by have := HJ9.out; have := HK2.out; have := HJ68.out; have := HK4.out; omega⟩, ⟨tR HO_344001.out⟩, ⟨tR HO_352001.out⟩, ⟨tR HO_358001.out⟩, ⟨tG BK343.out⟩, ⟨tG BK351.out⟩, ⟨tG BK357.out⟩, ⟨tB⟩⟩
    rw [if_pos c88] at H
    have c88b0 := beq_iff_eq.mpr c88
    have c88b1 := bne_eq_false_iff_eq.mpr c88
    clear c88
    by_cases c89 : 0 ≤ x17_4
    rotate_left
    ·rw [if_neg c89] at H
     exact absurd H (by simp)
    rw [if_pos c89] at H
    have c89b0 := decide_eq_true c89
    clear c89
    replace H' := Aq.mk H
    clear H
    have hnb90 := NB351_343.out
    have hnc90 := NB343_351.out
    have hnb91 := NB351_357.out
    have hnc91 := NB357_351.out
    have hcz92_0 : wr.cell? ⟨gb351, 0, none⟩ = some (.int .i64 t346) := (kQC BK351.out 0).trans rfl
    have hcz92_1 : wr.cell? ⟨gb351, 1, none⟩ = some (.slice Ao21 t347.length co21) := (kQC BK351.out 1).trans rfl
    have hfz92_0 := kQF BK351.out 0
    have hfz92_1 := kQF BK351.out 1
    have p364 : 0 ≤ (x17_4 : Int) := of_decide_eq_true tA
    have q364 : x17_4 < (t347.length : Int) := of_decide_eq_true tA
    obtain ⟨ad364, e364, hx364_0⟩ := Kd.at_int (Kd.R_reads' HO_352001.out).2.2 x17_4 p364 q364
    cases e364
    replace p364 := eq_true p364
    replace q364 := eq_true q364
    go_wp2
    go_roundg k4
    case measure => have := HJ9.out; have := HK2.out; have := HJ68.out; have := HK4.out; omega
    case rel => exact ⟨(Go.bits .xor .i64 x16_4 (rd t347 x17_4)), (wrap64 (x17_4 + 1)), tS, tS, H', ⟨by have := HJ9.out; have := HK2.out; have := HJ68.out; have := HK4.out; omega⟩, ⟨tR HO_344001.out⟩, ⟨tR HO_352001.out⟩, ⟨tR HO_358001.out⟩, ⟨tG BK343.out⟩, ⟨tG BK351.out⟩, ⟨tG BK357.out⟩, ⟨tB⟩⟩
   rw [if_neg c84] at H
   have c84b0 := decide_eq_false c84
   clear c84
   by_cases c96 : 0 ≤ x13_2
   rotate_left
   ·rw [if_neg c96] at H
    exact absurd H (by simp)
   rw [if_pos c96] at H
   have c96b0 := decide_eq_true c96
   clear c96
   by_cases c97 : x13_2 < (t340.length : Int)
   rotate_left
   ·rw [if_neg c97] at H
    exact absurd H (by simp)
   rw [if_pos c97] at H
   have c97b0 := decide_eq_true c97
   clear c97
   by_cases c98 : x16_4 = (rd t340 x13_2)
   rotate_left
   ·rw [if_neg c98] at H
    have c98b0 := beq_eq_false_iff_ne.mpr c98
    have c98b1 := bne_iff_ne.mpr c98
    obtain rfl := Option.some.inj H
    have hnb104 := NB351_343.out
    have hnc104 := NB343_351.out
    have hnb105 := NB351_357.out
    have hnc105 := NB357_351.out
    have hcz106_0 : wr.cell? ⟨gb351, 0, none⟩ = some (.int .i64 t346) := (kQC BK351.out 0).trans rfl
    have hcz106_1 : wr.cell? ⟨gb351, 1, none⟩ = some (.slice Ao21 t347.length co21) := (kQC BK351.out 1).trans rfl
    have hfz106_0 := kQF BK351.out 0
    have hfz106_1 := kQF BK351.out 1
    have hnb107 := NB343_357.out
    have hnc107 := NB357_343.out
    have hcz108_0 : wr.cell? ⟨gb343, 0, none⟩ = some (.int .i64 t339) := (kQC BK343.out 0).trans rfl
    have hcz108_1 : wr.cell? ⟨gb343, 1, none⟩ = some (.slice (some ad361) t340.length co14) := (kQC BK343.out 1).trans rfl
    have hfz108_0 := kQF BK343.out 0
    have hfz108_1 := kQF BK343.out 1
    have p365 : 0 ≤ (x13_2 : Int) := of_decide_eq_true tA
    have q365 : x13_2 < (t340.length : Int) := of_decide_eq_true tA
    obtain ⟨ad365, e365, hx365_0⟩ := Kd.at_int (Kd.R_reads' HO_344001.out).2.2 x13_2 p365 q365
    obtain rfl : ad361 = ad365 := (by injection e365)
    replace p365 := eq_true p365
    replace q365 := eq_true q365
    go_wp2
    go_ret
    exact ⟨tE, tB⟩
   rw [if_pos c98] at H
   have c98b0 := beq_iff_eq.mpr c98
   have c98b1 := bne_eq_false_iff_eq.mpr c98
   clear c98
   replace H' := Aq.mk H
   clear H
   have hnb99 := NB351_343.out
   have hnc99 := NB343_351.out
   have hnb100 := NB351_357.out
   have hnc100 := NB357_351.out
   have hcz101_0 : wr.cell? ⟨gb351, 0, none⟩ = some (.int .i64 t346) := (kQC BK351.out 0).trans rfl
   have hcz101_1 : wr.cell? ⟨gb351, 1, none⟩ = some (.slice Ao21 t347.length co21) := (kQC BK351.out 1).trans rfl
   have hfz101_0 := kQF BK351.out 0
   have hfz101_1 := kQF BK351.out 1
   have hnb102 := NB343_357.out
   have hnc102 := NB357_343.out
   have hcz103_0 : wr.cell? ⟨gb343, 0, none⟩ = some (.int .i64 t339) := (kQC BK343.out 0).trans rfl
   have hcz103_1 : wr.cell? ⟨gb343, 1, none⟩ = some (.slice (some ad361) t340.length co14) := (kQC BK343.out 1).trans rfl
   have hfz103_0 := kQF BK343.out 0
   have hfz103_1 := kQF BK343.out 1
   have p365 : 0 ≤ (x13_2 : Int) := of_decide_eq_true tA
   have q365 : x13_2 < (t340.length : Int) := of_decide_eq_true tA
   obtain ⟨ad365, e365, hx365_0⟩ := Kd.at_int (Kd.R_reads' HO_344001.out).2.2 x13_2 p365 q365
   obtain rfl : ad361 = ad365 := (by injection e365)
   replace p365 := eq_true p365
   replace q365 := eq_true q365
   go_wp2
   go_roundg k4
   case measure => have := HJ9.out; have := HK2.out; have := HJ68.out; have := HK4.out; omega
   case rel => exact ⟨(wrap64 (x13_2 + 1)), tS, H', ⟨by have := HJ9.out; have := HK2.out; have := HJ68.out; have := HK4.out; omega⟩, ⟨tR HO_344001.out⟩, ⟨tR HO_352001.out⟩, ⟨tR HO_358001.out⟩, ⟨tG BK343.out⟩, ⟨tG BK351.out⟩, ⟨tG BK357.out⟩, ⟨tB⟩⟩
theorem laws_FnRanks.G3 : laws_FnRanks.G0.2.2.1 := by
 intro k A0 c0 l0 A1 c1 l1 r w hu27 HR0 HC0 HR1 HC1 za_2_0 A3 za_2_1 t338 A5 za_2_2 t339 t340 A6 za_2_3 t344 t345 A7 za_2_4 t346 t347 t350 A8 za_2_5 t352 t353 t356 A9 za_2_6 za_2_7 za_2_8 nd w11 gb343 w12 GW343 GE343 Ao14 co14 w15 w17 gb351 w18 GW351 GE351 NB343_351 NB351_343 hnb19 hnc19 Ao21 co21 w23 gb357 w24 za_2_9 za_2_10 za_2_11 za_2_12 GW357 GE357 NB343_357 NB357_343 NB351_357 NB357_351 hnb25 hnc25 hnb26 hnc26 Ao28 co28 HO342 HO349 HO355 wc u41 u42 u43 u44 u45 u46 u47 u48 u49 u50 u51 u52 u53 u54 u55 u56 u57 u58 u59 u60 u61 u62 u63 u64 u65 u66 u67 u68 u69 u70 u71 u72 u73 u74 u75 u76 u77 u78 u79 u80 u81 u82 u83 u84 u85 u86 u87 u88 u89 u90 u91 u92 u93 u94 u95 u96 za_2_13 za_2_14 za_2_15 za_2_16 za_2_17 za_2_18 za_2_19 za_2_20 za_2_21 za_2_22 za_2_23 za_2_24 za_2_25 za_2_26 za_2_27 za_2_28 za_2_29 za_2_30 za_2_31 za_2_32 za_2_33 za_2_34 za_2_35 za_2_36 za_2_37 za_2_38 za_2_39 za_2_40 za_2_41 za_2_42 za_2_43 za_2_44 za_2_45 za_2_46 za_2_47 za_2_48 za_2_49 za_2_50 za_2_51 za_2_52 za_2_53 za_2_54 za_2_55 za_2_56 za_2_57 za_2_58 za_2_59 za_2_60 za_2_61 za_2_62 za_2_63 za_2_64 za_2_65 za_2_66 za_2_67 za_2_68 za_2_69 za_2_70 za_2_71 za_2_72 za_2_73 za_2_74 za_2_75 za_2_76 za_2_77 za_2_78 za_2_79 za_2_80 za_2_81 za_2_82 za_2_83 za_2_84 za_2_85 za_2_86 za_2_87 za_2_88 za_2_89 za_2_90 u176 u177 u178 u179 u180 u181 u182 u183 u184 u185 u186 u187 u188 u189 u190 u191 u192 u193 u194 u195 u196 u197 u198 u199 u200 u201 u202 u203 u204 u205 u206 u207 u208 u209 u210 u211 u212 u213 u214 u215 u216 u217 u218 u219 u220 u221 u222 u223 u224 u225 u226 u227 u228 u229 u230 u231 u232 u233 u234 u235 u236 u237 u238 u239 u240 u241 u242 u243 u244 u245 u246 u247 u248 u249 u250 u251 u252 u253 u254 u255 u256 u257 u258 u259 u260 u261 u262 u263 u264 u265 u266 u267 u268 u269 u270 u271 u272 u273 u274 u275 u276 u277 u278 u279 u280 u281 u282 u283 u284 u285 u286 u287 u288 u289 u290 u291 u292 u293 u294 u295 u296 u297 u298 u299 u300 u301 u302 u303 u304 u305 u306 u307 u308 u309 u310 u311 u312 u313 u314 u315 za_2_91 za_2_92 za_2_93 za_2_94 za_2_95 za_2_96 za_2_97 kj9 HJ9 za_2_98 za_2_99 za_2_100 u14 u15 u16 u17 u98 u99 u100 u101 u102 u103 u104 u105 u106 u107 u108 u109 u110 u111 u112 u113 u114 u115 u116 u117 u118 u119 u120 u121 u122 u123 u124 u125 u126 u127 u128 u129 u130 u131 u132 u133 u134 u135 u136 u137 u138 u139 u140 u141 u142 u143 u144 u145 u146 u147 u148 u149 u150 u151 u152 u153 u154 u155 u156 za_2_101 za_2_102 za_2_103 x13_2 za_2_104 za_2_105 za_2_106 za_2_107 za_2_108 za_2_109 za_2_110 k2 za_2_111 HK2 hnb109 hnc109 hnb110 hnc110 za_2_112 za_2_113 za_2_114 za_2_115 wr u4 u19 u20 u157 u158 u159 u160 u161 u162 u163 u164 u165 u166 u167 u168 u169 u170 u171 u172 u173 u174 u175 za_2_116 za_2_117 za_2_118 x18_3 HO_344001 HO_352001 HO_358001 BK343 BK351 BK357 HB k3 za_2_119 HK3 H c112
 rw [if_pos c112] at H
 have c112b0 := decide_eq_true c112
 clear c112
 by_cases c113 : 0 ≤ x18_3
 rotate_left
 ·rw [if_neg c113] at H
  exact absurd H (by simp)
 rw [if_pos c113] at H
 have c113b0 := decide_eq_true c113
 clear c113
 obtain ⟨⟨t367, t368⟩, A114, H⟩ := qBd H
 (try dsimp only at H)
 by_cases c115 : t368 = 0
 rotate_left
 ·rw [if_neg c115] at H
  have c115b0 := beq_eq_false_iff_ne.mpr c115
  have c115b1 := bne_iff_ne.mpr c115
  obtain rfl := Option.some.inj H
  have hnb121 := NB351_343.out
  have hnc121 := NB343_351.out
  have hnb122 := NB351_357.out
  have hnc122 := NB357_351.out
  have hcz123_0 : wr.cell? ⟨gb351, 0, none⟩ = some (.int .i64 t346) := (kQC BK351.out 0).trans rfl
  have hcz123_1 : wr.cell? ⟨gb351, 1, none⟩ = some (.slice Ao21 t347.length co21) := (kQC BK351.out 1).trans rfl
  have hfz123_0 := kQF BK351.out 0
  have hfz123_1 := kQF BK351.out 1
  try go_wp2
  have n0_ := Aq.mk (Kd.RqD HO_344001.out)
  have n1_ := Aq.mk (Kd.RqD HO_352001.out)
  have n2_ := Aq.mk (Kd.RqD HO_358001.out)
  have n3_ := Aq.mk (kQD BK343.out)
  have n4_ := Aq.mk (kQD BK351.out)
  have n5_ := Aq.mk (kQD BK357.out)
  have n6_ := Aq.mk (bQ1 HB.out)
  clear HO_344001
  clear HO_352001
  clear HO_358001
  clear BK343
  clear BK351
  clear BK357
  clear HB
  have HO_344001 := n0_
  have HO_352001 := n1_
  have HO_358001 := n2_
  have BK343 := n3_
  have BK351 := n4_
  have BK357 := n5_
  have HB := n6_
  clear n0_ n1_ n2_ n3_ n4_ n5_ n6_
  have p366 : 0 ≤ (x18_3 : Int) := of_decide_eq_true tA
  have q366 : x18_3 < (t347.length : Int) := of_decide_eq_true tA
  obtain ⟨ad366, e366, hx366_0⟩ := Kd.at_int (Kd.R_reads' HO_352001.out).2.2 x18_3 p366 q366
  cases e366
  replace p366 := eq_true p366
  replace q366 := eq_true q366
  refine start_ (n := 12) (S := fun w' => w'.cell? ⟨gb343, 0, none⟩ = some (.int .i64 t339) ∧ w'.cell? ⟨gb343, 1, none⟩ = some (.slice Ao14 t340.length co14) ∧ w'.cell? ⟨gb351, 0, none⟩ = some (.int .i64 t346) ∧ w'.cell? ⟨gb351, 1, none⟩ = some (.slice (some ad366) t347.length co21) ∧ w'.cell? (ad366.add (x18_3).toNat) = some (.int .i64 (rd t347 x18_3))) (ds := []) #[false, false, false, false, false, false, false, false, false, false, false, false] (by kernel_rfl) rfl rfl ⟨(kQC BK343.out 0).trans rfl, (kQC BK343.out 1).trans rfl, (kQC BK351.out 0).trans rfl, (kQC BK351.out 1).trans rfl, hx366_0⟩ (fun hHeld => ?_); refine with_tabW laws_FnRanks.tab27 laws_FnRanks.bits27 (fun HT_ HW_ => ?_)
  generalize wr.drew = w124 at HO_344001 HO_352001 HO_358001 BK343 BK351 BK357 HB hx366_0 hHeld ⊢
  refine tP0 1 166 (bm 12 2) ?_
  refine tP0 3 168 (bm 12 10) ?_
  refine tT5 0 165 (bm 12 11) ?_
  refine tT5 2 167 (bm 12 15) ?_
  refine tP0 4 169 (bm 12 31) ?_
  refine tT5 5 170 (bm 12 63) ?_
  refine one_ (i := 6) (N := some 171) (bm 12 127) rfl rfl (one_of HT_.out (by kernel_rfl)) (by decide) (fun K hK => ?_)
  refine goes_ Try.func16 (by kernel_rfl) rfl #[.agg #[.int .i64 t339, .slice Ao14 t340.length co14], .int .i64 (rd t347 x18_3)] (by rfl) rfl rfl tL ?_
  with_reducible refine (impl_SolveRows.calls k3 t339 (fun k_ => some k_ = (.slice Ao14 t340.length co14 : Value).ownBlock) _ _ t340 (rd t347 x18_3) t367 t368 _ ?s1 A114.out).mono ?_
  (case s1 => exact Kd.R_V (Kd.R_tight rfl (Kd.R_types (Kd.R_types (Kd.R_types (HO_344001.out) BK343.out (by decide)) BK351.out (by decide)) BK357.out (by decide))))
  rintro e w125 ⟨rfl, hb⟩
  have HS4_ := (hb.cell (World.block_lt_of_cell? _ _ (hHeld.2.2.2.2))).trans (hHeld.2.2.2.2)
  refine ⟨_, rfl, ?_⟩
  have n0_ := Aq.mk (Kd.R_below (tR HO_344001.out) hb)
  have n1_ := Aq.mk (Kd.R_below (tR HO_352001.out) hb)
  have n2_ := Aq.mk (Kd.R_below (tR HO_358001.out) hb)
  have n3_ := Aq.mk (tQ BK343.out hb)
  have n4_ := Aq.mk (tQ BK351.out hb)
  have n5_ := Aq.mk (tQ BK357.out hb)
  have n6_ := Aq.mk (bQT tB hb)
  clear HO_344001
  clear HO_352001
  clear HO_358001
  clear BK343
  clear BK351
  clear BK357
  clear HB
  have HO_344001 := n0_
  have HO_352001 := n1_
  have HO_358001 := n2_
  have BK343 := n3_
  have BK351 := n4_
  have BK357 := n5_
  have HB := n6_
  clear n0_ n1_ n2_ n3_ n4_ n5_ n6_
  (try clear hb)
  (try clear hb2)
  (try clear hk)
  (try clear hi)
  refine hK.out _ _ ⟨(kQC BK343.out 0).trans rfl, (kQC BK343.out 1).trans rfl, (kQC BK351.out 0).trans rfl, (kQC BK351.out 1).trans rfl, HS4_⟩ (fun hHeld => ?_)
  clear hK K
  refine tN 171 ?_
  refine tP0 7 164 (bm 12 255) ?_
  refine tP0 8 172 (bm 12 511) ?_
  refine tP0 9 173 (bm 12 1023) ?_
  refine tP0 10 19 (bm 12 2047) ?_
  refine tP0 11 20 (bm 12 4095) ?_
  refine done_ (done_of HT_.out (by kernel_rfl)) ?_
  try go_wp2
  go_ret
  exact ⟨tE, tB⟩
 rw [if_pos c115] at H
 have c115b0 := beq_iff_eq.mpr c115
 have c115b1 := bne_eq_false_iff_eq.mpr c115
 clear c115
 replace H' := Aq.mk H
 clear H
 have hnb116 := NB351_343.out
 have hnc116 := NB343_351.out
 have hnb117 := NB351_357.out
 have hnc117 := NB357_351.out
 have hcz118_0 : wr.cell? ⟨gb351, 0, none⟩ = some (.int .i64 t346) := (kQC BK351.out 0).trans rfl
 have hcz118_1 : wr.cell? ⟨gb351, 1, none⟩ = some (.slice Ao21 t347.length co21) := (kQC BK351.out 1).trans rfl
 have hfz118_0 := kQF BK351.out 0
 have hfz118_1 := kQF BK351.out 1
 try go_wp2
 have n0_ := Aq.mk (Kd.RqD HO_344001.out)
 have n1_ := Aq.mk (Kd.RqD HO_352001.out)
 have n2_ := Aq.mk (Kd.RqD HO_358001.out)
 have n3_ := Aq.mk (kQD BK343.out)
 have n4_ := Aq.mk (kQD BK351.out)
 have n5_ := Aq.mk (kQD BK357.out)
 have n6_ := Aq.mk (bQ1 HB.out)
 clear HO_344001
 clear HO_352001
 clear HO_358001
 clear BK343
 clear BK351
 clear BK357
 clear HB
 have HO_344001 := n0_
 have HO_352001 := n1_
 have HO_358001 := n2_
 have BK343 := n3_
 have BK351 := n4_
 have BK357 := n5_
 have HB := n6_
 clear n0_ n1_ n2_ n3_ n4_ n5_ n6_
 have p366 : 0 ≤ (x18_3 : Int) := of_decide_eq_true tA
 have q366 : x18_3 < (t347.length : Int) := of_decide_eq_true tA
 obtain ⟨ad366, e366, hx366_0⟩ := Kd.at_int (Kd.R_reads' HO_352001.out).2.2 x18_3 p366 q366
 cases e366
 replace p366 := eq_true p366
 replace q366 := eq_true q366
 refine start_ (n := 12) (S := fun w' => w'.cell? ⟨gb343, 0, none⟩ = some (.int .i64 t339) ∧ w'.cell? ⟨gb343, 1, none⟩ = some (.slice Ao14 t340.length co14) ∧ w'.cell? ⟨gb351, 0, none⟩ = some (.int .i64 t346) ∧ w'.cell? ⟨gb351, 1, none⟩ = some (.slice (some ad366) t347.length co21) ∧ w'.cell? (ad366.add (x18_3).toNat) = some (.int .i64 (rd t347 x18_3))) (ds := []) #[false, false, false, false, false, false, false, false, false, false, false, false] (by kernel_rfl) rfl rfl ⟨(kQC BK343.out 0).trans rfl, (kQC BK343.out 1).trans rfl, (kQC BK351.out 0).trans rfl, (kQC BK351.out 1).trans rfl, hx366_0⟩ (fun hHeld => ?_); refine with_tabW laws_FnRanks.tab27 laws_FnRanks.bits27 (fun HT_ HW_ => ?_)
 generalize wr.drew = w119 at HO_344001 HO_352001 HO_358001 BK343 BK351 BK357 HB hx366_0 hHeld ⊢
 refine tP0 1 166 (bm 12 2) ?_
 refine tP0 3 168 (bm 12 10) ?_
 refine tT5 0 165 (bm 12 11) ?_
 refine tT5 2 167 (bm 12 15) ?_
 refine tP0 4 169 (bm 12 31) ?_
 refine tT5 5 170 (bm 12 63) ?_
 refine one_ (i := 6) (N := some 171) (bm 12 127) rfl rfl (one_of HT_.out (by kernel_rfl)) (by decide) (fun K hK => ?_)
 refine goes_ Try.func16 (by kernel_rfl) rfl #[.agg #[.int .i64 t339, .slice Ao14 t340.length co14], .int .i64 (rd t347 x18_3)] (by rfl) rfl rfl tL ?_
 with_reducible refine (impl_SolveRows.calls k3 t339 (fun k_ => some k_ = (.slice Ao14 t340.length co14 : Value).ownBlock) _ _ t340 (rd t347 x18_3) t367 t368 _ ?s1 A114.out).mono ?_
 (case s1 => exact Kd.R_V (Kd.R_tight rfl (Kd.R_types (Kd.R_types (Kd.R_types (HO_344001.out) BK343.out (by decide)) BK351.out (by decide)) BK357.out (by decide))))
 rintro e w120 ⟨rfl, hb⟩
 have HS4_ := (hb.cell (World.block_lt_of_cell? _ _ (hHeld.2.2.2.2))).trans (hHeld.2.2.2.2)
 refine ⟨_, rfl, ?_⟩
 have n0_ := Aq.mk (Kd.R_below (tR HO_344001.out) hb)
 have n1_ := Aq.mk (Kd.R_below (tR HO_352001.out) hb)
 have n2_ := Aq.mk (Kd.R_below (tR HO_358001.out) hb)
 have n3_ := Aq.mk (tQ BK343.out hb)
 have n4_ := Aq.mk (tQ BK351.out hb)
 have n5_ := Aq.mk (tQ BK357.out hb)
 have n6_ := Aq.mk (bQT tB hb)
 clear HO_344001
 clear HO_352001
 clear HO_358001
 clear BK343
 clear BK351
 clear BK357
 clear HB
 have HO_344001 := n0_
 have HO_352001 := n1_
 have HO_358001 := n2_
 have BK343 := n3_
 have BK351 := n4_
 have BK357 := n5_
 have HB := n6_
 clear n0_ n1_ n2_ n3_ n4_ n5_ n6_
 (try clear hb)
 (try clear hb2)
 (try clear hk)
 (try clear hi)
 refine hK.out _ _ ⟨(kQC BK343.out 0).trans rfl, (kQC BK343.out 1).trans rfl, (kQC BK351.out 0).trans rfl, (kQC BK351.out 1).trans rfl, HS4_⟩ (fun hHeld => ?_)
 clear hK K
 refine tN 171 ?_
 refine tP0 7 164 (bm 12 255) ?_
 refine tP0 8 172 (bm 12 511) ?_
 refine tP0 9 173 (bm 12 1023) ?_
 refine tP0 10 19 (bm 12 2047) ?_
 refine tP0 11 20 (bm 12 4095) ?_
 refine done_ (done_of HT_.out (by kernel_rfl)) ?_
 try go_wp2
 go_roundg k3
 case measure => have := HJ9.out; have := HK2.out; have := HK3.out; omega
 case rel => exact ⟨(wrap64 (x18_3 + 1)), tS, H', ⟨by have := HJ9.out; have := HK2.out; have := HK3.out; omega⟩, ⟨tR HO_344001.out⟩, ⟨tR HO_352001.out⟩, ⟨tR HO_358001.out⟩, ⟨tG BK343.out⟩, ⟨tG BK351.out⟩, ⟨tG BK357.out⟩, ⟨tB⟩⟩
end Go.Proofs.Ythjfilmdobkmlaa.P
