/- Functions of the program and what they tell, as the printing program wrote it. -/
import Derived.Test.YthjfilmdobkmlaaPx0
import Derived.Test.YthjfilmdobkmlaaPx11
import Derived.Test.YthjfilmdobkmlaaPx20
import Derived.Test.YthjfilmdobkmlaaPx21
namespace Go.Proofs.Ythjfilmdobkmlaa.P
open Go.Shelf Go.RowKit Go.Proofs.YthjfilmdobkmlaaW.PrintWords Go.Proofs.YthjfilmdobkmlaaW.PrintLast Go.Proofs.YthjfilmdobkmlaaW.PrintMore
attribute [local go_sem] max2_int min2_int max_two min_two max_three min_three max_four min_four
set_option linter.unusedVariables false
set_option linter.unusedSimpArgs false
set_option maxHeartbeats 8000000
set_option maxRecDepth 100000
def impl_Matrix_meet.f (k : Nat) (a0_0 : Int) (l0_1 : List Int) (a1_0 : Int) (l1_1 : List Int) : Option (Int × List Int) := (impl_Matrix_kernel.f k a0_0 l0_1).bind fun bt466 => ((impl_Matrix_kernel.f k a1_0 l1_1).bind fun bt470 => ((impl_Matrix_sum.f k bt466.1 bt466.2 bt470.1 bt470.2).bind fun bt474 => ((impl_Matrix_kernel.f k bt474.1 bt474.2).bind fun bt478 => (some (bt478.1, bt478.2)))))
theorem impl_Matrix_meet.mono : ∀ a0 a1 a2 a3 k, LeO (impl_Matrix_meet.f k a0 a1 a2 a3) (impl_Matrix_meet.f (k + 1) a0 a1 a2 a3) := by
 intro a0 a1 a2 a3 k
 unfold impl_Matrix_meet.f
 repeat' first
  | (with_reducible first | apply impl_Matrix_kernel.mono | apply impl_Matrix_sum.mono | exact LeO.refl _ | exact LeO.none _ | refine LeO.ite ?_ ?_ | refine LeO.bind ?_ (fun _ => ?_))
  | exact LeO.none _
  | refine LeO.ite ?_ ?_
  | refine LeO.bind ?_ (fun _ => ?_)
theorem impl_Matrix_meet.calls (k : Nat) (a0_0 : Int) (A0_1 : Option Addr) (c0_1 : Nat) (l0_1 : List Int) (a1_0 : Int) (A1_1 : Option Addr) (c1_1 : Nat) (l1_1 : List Int) (r1 : Int) (r2 : List Int) (w : World) (hr0_1 : Kd.C (Kd.int .i64) w A0_1 l0_1.length l0_1) (hc0_1 : l0_1.length ≤ c0_1) (hr1_1 : Kd.C (Kd.int .i64) w A1_1 l1_1.length l1_1) (hc1_1 : l1_1.length ≤ c1_1) (h : impl_Matrix_meet.f k a0_0 l0_1 a1_0 l1_1 = some (r1, r2)) :
 Calls Try.prog 59 #[.agg #[.int .i64 a0_0, .slice A0_1 l0_1.length c0_1], .agg #[.int .i64 a1_0, .slice A1_1 l1_1.length c1_1]] w fun e w' => ∃ v1_ : Value, e = .returned (.agg #[.int .i64 r1, v1_]) ∧ Kd.R (Kd.int .i64) 2 w' w.heap.size (fun _ => True) v1_ r2 ∧ Below w.heap.size w w' := by
 have hu27 := Try.underlying27
 have HR0_1 := Aq.mk hr0_1
 have HC0_1 := Aq.mk hc0_1
 clear hr0_1 hc0_1
 have HR1_1 := Aq.mk hr1_1
 have HC1_1 := Aq.mk hc1_1
 clear hr1_1 hc1_1
 have HB := Aq.mk (Below.refl w.heap.size w)
 have H : ((impl_Matrix_kernel.f k a0_0 l0_1).bind fun bt466 => ((impl_Matrix_kernel.f k a1_0 l1_1).bind fun bt470 => ((impl_Matrix_sum.f k bt466.1 bt466.2 bt470.1 bt470.2).bind fun bt474 => ((impl_Matrix_kernel.f k bt474.1 bt474.2).bind fun bt478 => (some (bt478.1, bt478.2)))))) = some (r1, r2) := h
 clear h
 obtain ⟨⟨t466, t467⟩, A3, H⟩ := qBd H
 (try dsimp only at H)
 obtain ⟨⟨t470, t471⟩, A4, H⟩ := qBd H
 (try dsimp only at H)
 obtain ⟨⟨t474, t475⟩, A5, H⟩ := qBd H
 (try dsimp only at H)
 obtain ⟨⟨t478, t479⟩, A6, H⟩ := qBd H
 (try dsimp only at H)
 simp only [Option.some.injEq, Prod.mk.injEq] at H
 obtain ⟨rfl, rfl⟩ := H
 go_enter Try.func59, Try.ntmps59
 try go_wp2_with (first | ((with_reducible refine gQd (N := 2) rfl ?_); refine xQe ?hg (N := 2) ?hd (cs := #[.int .i64 a0_0, .slice A0_1 l0_1.length c0_1]) (t := 27) ?hr ?_; (case hd => rfl); (case hg => rfl); (case hr => exact tH); intro gb463 hg w7 hbox hb; refine qM4 (bQT tB hb) hbox (tZ w hg) (tZ w hg) ?_; clear HB; intro HB BK463 GW463 GE463; clear hb hbox hg) | ((with_reducible refine gQd (N := 3) rfl ?_); refine xQe ?hg (N := 3) ?hd (cs := #[.int .i64 a1_0, .slice A1_1 l1_1.length c1_1]) (t := 27) ?hr ?_; (case hd => rfl); (case hg => rfl); (case hr => exact tH); intro gb464 hg w8 hbox hb; refine qM7 (tQ BK463.out hb) (bQT tB hb) hbox (tZ w hg) (tZ w hg) ((by rw [hg]; exact Nat.ne_of_lt (blk_lt (g := gb463) (o := .cells #[.int .i64 a0_0, .slice A0_1 l0_1.length c0_1] 27 (0, 0)) (tG BK463.out)) : gb463 ≠ gb464)) ((by rw [hg]; exact Nat.ne_of_gt (blk_lt (g := gb463) (o := .cells #[.int .i64 a0_0, .slice A0_1 l0_1.length c0_1] 27 (0, 0)) (tG BK463.out)) : gb464 ≠ gb463)) ?_; clear BK463 HB; intro BK463 HB BK464 GW464 GE464 NB463_464 NB464_463; clear hb hbox hg) | ((with_reducible refine gQd (N := 4) rfl ?_); refine xQe ?hg (N := 4) ?hd (cs := #[.int .i64 0, .slice none 0 0]) (t := 27) ?hr ?_; (case hd => rfl); (case hg => rfl); (case hr => exact tH); intro gb465 hg w9 hbox hb; refine qM10 (tQ BK463.out hb) (tQ BK464.out hb) (bQT tB hb) hbox (tZ w hg) (tZ w hg) ((by rw [hg]; exact Nat.ne_of_lt (blk_lt (g := gb463) (o := .cells #[.int .i64 a0_0, .slice A0_1 l0_1.length c0_1] 27 (0, 0)) (tG BK463.out)) : gb463 ≠ gb465)) ((by rw [hg]; exact Nat.ne_of_gt (blk_lt (g := gb463) (o := .cells #[.int .i64 a0_0, .slice A0_1 l0_1.length c0_1] 27 (0, 0)) (tG BK463.out)) : gb465 ≠ gb463)) ((by rw [hg]; exact Nat.ne_of_lt (blk_lt (g := gb464) (o := .cells #[.int .i64 a1_0, .slice A1_1 l1_1.length c1_1] 27 (0, 0)) (tG BK464.out)) : gb464 ≠ gb465)) ((by rw [hg]; exact Nat.ne_of_gt (blk_lt (g := gb464) (o := .cells #[.int .i64 a1_0, .slice A1_1 l1_1.length c1_1] 27 (0, 0)) (tG BK464.out)) : gb465 ≠ gb464)) ?_; clear BK463 BK464 HB; intro BK463 BK464 HB BK465 GW465 GE465 NB463_465 NB465_463 NB464_465 NB465_464; clear hb hbox hg))
 have n0_ := Aq.mk (kQD BK463.out)
 have n1_ := Aq.mk (kQD BK464.out)
 have n2_ := Aq.mk (kQD BK465.out)
 have n3_ := Aq.mk (bQ1 HB.out)
 clear BK463
 clear BK464
 clear BK465
 clear HB
 have BK463 := n0_
 have BK464 := n1_
 have BK465 := n2_
 have HB := n3_
 clear n0_ n1_ n2_ n3_
 refine start_ (n := 7) (S := fun w' => w'.cell? ⟨gb463, 0, none⟩ = some (.int .i64 a0_0) ∧ w'.cell? ⟨gb463, 1, none⟩ = some (.slice A0_1 l0_1.length c0_1) ∧ w'.cell? ⟨gb464, 0, none⟩ = some (.int .i64 a1_0) ∧ w'.cell? ⟨gb464, 1, none⟩ = some (.slice A1_1 l1_1.length c1_1)) (ds := []) #[false, false, false, false, false, false, false] (by kernel_rfl) rfl rfl ⟨(kQC BK463.out 0).trans rfl, (kQC BK463.out 1).trans rfl, (kQC BK464.out 0).trans rfl, (kQC BK464.out 1).trans rfl⟩ (fun hHeld => ?_)
 generalize w9.drew = w10 at BK463 BK464 BK465 HB hHeld ⊢
 refine tT4k 0 5 (bm 7 1) ?_
 refine tT4k 2 7 (bm 7 5) ?_
 refine one_ (i := 1) (N := some 6) (bm 7 7) rfl rfl (by kernel_rfl) (by decide) (fun K hK => ?_)
 refine goes_ Try.func61 (by kernel_rfl) rfl #[.agg #[.int .i64 a0_0, .slice A0_1 l0_1.length c0_1]] (by rfl) rfl rfl tL ?_
 with_reducible refine (impl_Matrix_kernel.calls k a0_0 _ _ l0_1 t466 t467 _ ?s1 ?s2 A3.out).mono ?_
 (case s1 => exact tC ((Kd.C_below HR0_1.out HB.out)))
 (case s2 => exact HC0_1.out)
 rintro e w11 ⟨v468, rfl, ho0, hb⟩
 refine ⟨_, rfl, ?_⟩
 have n0_ := Aq.mk (Kd.R_lower ho0 (bQZ tB))
 have n1_ := Aq.mk (tQ BK463.out hb)
 have n2_ := Aq.mk (tQ BK464.out hb)
 have n3_ := Aq.mk (tQ BK465.out hb)
 have n4_ := Aq.mk (bQT tB hb)
 clear BK463
 clear BK464
 clear BK465
 clear HB
 have HO469 := n0_
 have BK463 := n1_
 have BK464 := n2_
 have BK465 := n3_
 have HB := n4_
 clear n0_ n1_ n2_ n3_ n4_
 (try clear hb)
 (try clear hb2)
 (try clear hk)
 (try clear hi)
 (try clear ho0)
 refine hK.out _ _ ⟨(kQC BK463.out 0).trans rfl, (kQC BK463.out 1).trans rfl, (kQC BK464.out 0).trans rfl, (kQC BK464.out 1).trans rfl⟩ (fun hHeld => ?_)
 clear hK K
 refine tN 6 ?_
 refine one_ (i := 3) (N := some 8) (bm 7 15) rfl rfl (by kernel_rfl) (by decide) (fun K hK => ?_)
 refine goes_ Try.func61 (by kernel_rfl) rfl #[.agg #[.int .i64 a1_0, .slice A1_1 l1_1.length c1_1]] (by rfl) rfl rfl tL ?_
 with_reducible refine (impl_Matrix_kernel.calls k a1_0 _ _ l1_1 t470 t471 _ ?s1 ?s2 A4.out).mono ?_
 (case s1 => exact tC ((Kd.C_below HR1_1.out HB.out)))
 (case s2 => exact HC1_1.out)
 rintro e w12 ⟨v472, rfl, ho0, hb⟩
 refine ⟨_, rfl, ?_⟩
 have n0_ := Aq.mk (Kd.R_elder' (tR HO469.out) (Kd.R_base ho0) hb)
 have n1_ := Aq.mk (Kd.R_lower (Kd.R_new' ho0 (Kd.R_lt (tR HO469.out))) (bQZ tB))
 have n2_ := Aq.mk (tQ BK463.out hb)
 have n3_ := Aq.mk (tQ BK464.out hb)
 have n4_ := Aq.mk (tQ BK465.out hb)
 have n5_ := Aq.mk (bQT tB hb)
 clear HO469
 clear BK463
 clear BK464
 clear BK465
 clear HB
 have HO469 := n0_
 have HO473 := n1_
 have BK463 := n2_
 have BK464 := n3_
 have BK465 := n4_
 have HB := n5_
 clear n0_ n1_ n2_ n3_ n4_ n5_
 (try clear hb)
 (try clear hb2)
 (try clear hk)
 (try clear hi)
 (try clear ho0)
 obtain ⟨Ao13, co13, eo13⟩ := Kd.R_slice HO469.out
 (first | subst eo13 | (injection eo13 with f1_ f2_ f3_; have f4_ := f1_.symm; have f5_ := f3_.symm; clear f1_ f2_ f3_; subst f4_; subst f5_))
 obtain ⟨Ao14, co14, eo14⟩ := Kd.R_slice HO473.out
 (first | subst eo14 | (injection eo14 with f1_ f2_ f3_; have f4_ := f1_.symm; have f5_ := f3_.symm; clear f1_ f2_ f3_; subst f4_; subst f5_))
 refine hK.out _ _ ⟨(kQC BK463.out 0).trans rfl, (kQC BK463.out 1).trans rfl, (kQC BK464.out 0).trans rfl, (kQC BK464.out 1).trans rfl⟩ (fun hHeld => ?_)
 clear hK K
 refine tN 8 ?_
 refine one_ (i := 4) (N := some 9) (bm 7 31) rfl rfl (by kernel_rfl) (by decide) (fun K hK => ?_)
 refine goes_ Try.func58 (by kernel_rfl) rfl #[.agg #[.int .i64 t466, .slice Ao13 t467.length co13], .agg #[.int .i64 t470, .slice Ao14 t471.length co14]] (by rfl) rfl rfl tL ?_
 with_reducible refine (impl_Matrix_sum.calls k t466 (fun k_ => some k_ = (.slice Ao13 t467.length co13 : Value).ownBlock) _ _ t467 t470 (fun k_ => some k_ = (.slice Ao14 t471.length co14 : Value).ownBlock) _ _ t471 t474 t475 _ ?s1 ?s2 A5.out).mono ?_
 (case s1 => exact Kd.R_V (Kd.R_tight rfl (Kd.R_types (Kd.R_types (Kd.R_types (HO469.out) BK463.out (by decide)) BK464.out (by decide)) BK465.out (by decide))))
 (case s2 => exact Kd.R_V (Kd.R_tight rfl (Kd.R_types (Kd.R_types (Kd.R_types (HO473.out) BK463.out (by decide)) BK464.out (by decide)) BK465.out (by decide))))
 rintro e w15 ⟨v476, rfl, ho0, hb⟩
 refine ⟨_, rfl, ?_⟩
 have n0_ := Aq.mk (Kd.R_elder' (tR HO469.out) (Kd.R_base ho0) hb)
 have n1_ := Aq.mk (Kd.R_elder' (tR HO473.out) (Kd.R_base ho0) hb)
 have n2_ := Aq.mk (Kd.R_lower (Kd.R_new' (Kd.R_new' (Kd.R_mono (ok' := fun k_ => True) ho0 (fun _ hk_ => trivial)) (Kd.R_lt (tR HO469.out))) (Kd.R_lt (tR HO473.out))) (bQZ tB))
 have n3_ := Aq.mk (tQ BK463.out hb)
 have n4_ := Aq.mk (tQ BK464.out hb)
 have n5_ := Aq.mk (tQ BK465.out hb)
 have n6_ := Aq.mk (bQT tB hb)
 clear HO469
 clear HO473
 clear BK463
 clear BK464
 clear BK465
 clear HB
 have HO469 := n0_
 have HO473 := n1_
 have HO477 := n2_
 have BK463 := n3_
 have BK464 := n4_
 have BK465 := n5_
 have HB := n6_
 clear n0_ n1_ n2_ n3_ n4_ n5_ n6_
 (try clear hb)
 (try clear hb2)
 (try clear hk)
 (try clear hi)
 (try clear ho0)
 obtain ⟨Ao16, co16, eo16⟩ := Kd.R_slice HO477.out
 (first | subst eo16 | (injection eo16 with f1_ f2_ f3_; have f4_ := f1_.symm; have f5_ := f3_.symm; clear f1_ f2_ f3_; subst f4_; subst f5_))
 refine hK.out _ _ ⟨(kQC BK463.out 0).trans rfl, (kQC BK463.out 1).trans rfl, (kQC BK464.out 0).trans rfl, (kQC BK464.out 1).trans rfl⟩ (fun hHeld => ?_)
 clear hK K
 refine tN 9 ?_
 refine one_ (i := 5) (N := some 10) (bm 7 63) rfl rfl (by kernel_rfl) (by decide) (fun K hK => ?_)
 refine goes_ Try.func61 (by kernel_rfl) rfl #[.agg #[.int .i64 t474, .slice Ao16 t475.length co16]] (by rfl) rfl rfl tL ?_
 with_reducible refine (impl_Matrix_kernel.calls k t474 _ _ t475 t478 t479 _ ?s1 ?s2 A6.out).mono ?_
 (case s1 => exact tC ((Kd.R_reads' HO477.out).2.2))
 (case s2 => exact (Kd.R_reads' HO477.out).2.1)
 rintro e w17 ⟨v480, rfl, ho0, hb⟩
 refine ⟨_, rfl, ?_⟩
 have n0_ := Aq.mk (Kd.R_elder' (tR HO469.out) (Kd.R_base ho0) hb)
 have n1_ := Aq.mk (Kd.R_elder' (tR HO473.out) (Kd.R_base ho0) hb)
 have n2_ := Aq.mk (Kd.R_elder' (tR HO477.out) (Kd.R_base ho0) hb)
 have n3_ := Aq.mk (Kd.R_lower (Kd.R_new' (Kd.R_new' (Kd.R_new' ho0 (Kd.R_lt (tR HO469.out))) (Kd.R_lt (tR HO473.out))) (Kd.R_lt (tR HO477.out))) (bQZ tB))
 have n4_ := Aq.mk (tQ BK463.out hb)
 have n5_ := Aq.mk (tQ BK464.out hb)
 have n6_ := Aq.mk (tQ BK465.out hb)
 have n7_ := Aq.mk (bQT tB hb)
 clear HO469
 clear HO473
 clear HO477
 clear BK463
 clear BK464
 clear BK465
 clear HB
 have HO469 := n0_
 have HO473 := n1_
 have HO477 := n2_
 have HO481 := n3_
 have BK463 := n4_
 have BK464 := n5_
 have BK465 := n6_
 have HB := n7_
 clear n0_ n1_ n2_ n3_ n4_ n5_ n6_ n7_
 (try clear hb)
 (try clear hb2)
 (try clear hk)
 (try clear hi)
 (try clear ho0)
 obtain ⟨Ao19, co19, eo19⟩ := Kd.R_slice HO481.out
 (first | subst eo19 | (injection eo19 with f1_ f2_ f3_; have f4_ := f1_.symm; have f5_ := f3_.symm; clear f1_ f2_ f3_; subst f4_; subst f5_))
 refine hK.out _ _ ⟨(kQC BK463.out 0).trans rfl, (kQC BK463.out 1).trans rfl, (kQC BK464.out 0).trans rfl, (kQC BK464.out 1).trans rfl⟩ (fun hHeld => ?_)
 clear hK K
 refine tN 10 ?_
 refine one_ (i := 6) (N := none) #[true, true, true, true, true, true, true] rfl rfl (by kernel_rfl) (by decide) (fun K hK => ?_)
 have hs18 : w17.cell? ⟨gb465, 0, none⟩ = some (.int .i64 0) := (kQC BK465.out 0).trans rfl
 have hfs18 := kQF BK465.out 0
 have hns18_0 := NB463_465.out
 have hns18_1 := NB464_465.out
 have hms18_0 := NB465_463.out
 have hms18_1 := NB465_464.out
 have hs20 : w17.cell? ⟨gb465, 1, none⟩ = some (.slice none 0 0) := (kQC BK465.out 1).trans rfl
 have hfs20 := kQF BK465.out 1
 have hns20_0 := NB463_465.out
 have hns20_1 := NB464_465.out
 have hms20_0 := NB465_463.out
 have hms20_1 := NB465_464.out
 refine skip_ (w1 := ?_) (by rfl) rfl ?_ ?_
 rotate_left
 ·go_simp
  rfl
 refine hK.out _ _ ⟨((cell_far (p := ⟨gb465, _, none⟩) NB463_465.out _).trans (((cell_far (p := ⟨gb465, _, none⟩) NB463_465.out _).trans (hHeld.1)))), ((cell_far (p := ⟨gb465, _, none⟩) NB463_465.out _).trans (((cell_far (p := ⟨gb465, _, none⟩) NB463_465.out _).trans (hHeld.2.1)))), ((cell_far (p := ⟨gb465, _, none⟩) NB464_465.out _).trans (((cell_far (p := ⟨gb465, _, none⟩) NB464_465.out _).trans (hHeld.2.2.1)))), ((cell_far (p := ⟨gb465, _, none⟩) NB464_465.out _).trans (((cell_far (p := ⟨gb465, _, none⟩) NB464_465.out _).trans (hHeld.2.2.2))))⟩ (fun hHeld => ?_)
 clear hK K
 refine done_ (by kernel_rfl) ?_
 try go_wp2
 refine bodyPost_ret (results_cell_row rfl _ _ gb465 27 #[.int .i64 t478, .slice Ao19 t479.length co19] (0, 0) _ rfl (by (with_reducible repeat (first | refine kQN ?_ _ | refine kQD ?_ | refine kQA ?_ _)); refine kQP (cs := #[.int .i64 t478, .slice none 0 0]) ?_ 1 _ rfl; (with_reducible repeat (first | refine kQN ?_ _ | refine kQD ?_ | refine kQA ?_ _)); refine kQP (cs := #[.int .i64 0, .slice none 0 0]) ?_ 0 _ rfl; (with_reducible repeat (first | refine kQN ?_ _ | refine kQD ?_ | refine kQA ?_ _)); exact BK465.out) Try.underlying27 rfl (by kernel_rfl)) rfl ?_
 exact ⟨_, tE, by (with_reducible repeat (first | apply Kd.RqA | apply Kd.RqN | apply Kd.RqD)); exact Kd.R_mono (Kd.R_far (p := ⟨gb465, 1, none⟩) (Kd.R_far (p := ⟨gb465, 0, none⟩) (Kd.R_types HO481.out BK465.out (by decide)) (fun _ hk => hk.2) (.int .i64 t478)) (fun _ hk => hk.2) (.slice Ao19 t479.length co19)) (fun _ hk => trivial), tB⟩
def impl_MeetOf.f (k : Nat) (a0_0 : Int) (l0_1 : List Int) (a1_0 : Int) (l1_1 : List Int) : Option (Int × List Int × Int) := (impl_spacesCode.f k a0_0 l0_1 a1_0 l1_1).bind fun t485 => (if t485 = 0 then ((impl_Matrix_meet.f k a0_0 l0_1 a1_0 l1_1).bind fun bt486 => (some (bt486.1, bt486.2, 0))) else (some (0, ([] : List Int), t485)))
theorem impl_MeetOf.mono : ∀ a0 a1 a2 a3 k, LeO (impl_MeetOf.f k a0 a1 a2 a3) (impl_MeetOf.f (k + 1) a0 a1 a2 a3) := by
 intro a0 a1 a2 a3 k
 unfold impl_MeetOf.f
 repeat' first
  | (with_reducible first | apply impl_Matrix_meet.mono | apply impl_spacesCode.mono | exact LeO.refl _ | exact LeO.none _ | refine LeO.ite ?_ ?_ | refine LeO.bind ?_ (fun _ => ?_))
  | exact LeO.none _
  | refine LeO.ite ?_ ?_
  | refine LeO.bind ?_ (fun _ => ?_)
theorem impl_MeetOf.calls (k : Nat) (a0_0 : Int) (A0_1 : Option Addr) (c0_1 : Nat) (l0_1 : List Int) (a1_0 : Int) (A1_1 : Option Addr) (c1_1 : Nat) (l1_1 : List Int) (r1 : Int) (r2 : List Int) (r3 : Int) (w : World) (hr0_1 : Kd.C (Kd.int .i64) w A0_1 l0_1.length l0_1) (hc0_1 : l0_1.length ≤ c0_1) (hr1_1 : Kd.C (Kd.int .i64) w A1_1 l1_1.length l1_1) (hc1_1 : l1_1.length ≤ c1_1) (h : impl_MeetOf.f k a0_0 l0_1 a1_0 l1_1 = some (r1, r2, r3)) :
 Calls Try.prog 22 #[.agg #[.int .i64 a0_0, .slice A0_1 l0_1.length c0_1], .agg #[.int .i64 a1_0, .slice A1_1 l1_1.length c1_1]] w fun e w' => ∃ v1_ : Value, e = .returned (.tuple #[.agg #[.int .i64 r1, v1_], .int .i64 r3]) ∧ Kd.R (Kd.int .i64) 2 w' w.heap.size (fun _ => True) v1_ r2 ∧ Below w.heap.size w w' := by
 have hu27 := Try.underlying27
 have HR0_1 := Aq.mk hr0_1
 have HC0_1 := Aq.mk hc0_1
 clear hr0_1 hc0_1
 have HR1_1 := Aq.mk hr1_1
 have HC1_1 := Aq.mk hc1_1
 clear hr1_1 hc1_1
 have HB := Aq.mk (Below.refl w.heap.size w)
 have H : ((impl_spacesCode.f k a0_0 l0_1 a1_0 l1_1).bind fun t485 => (if t485 = 0 then ((impl_Matrix_meet.f k a0_0 l0_1 a1_0 l1_1).bind fun bt486 => (some (bt486.1, bt486.2, 0))) else (some (0, ([] : List Int), t485)))) = some (r1, r2, r3) := h
 clear h
 obtain ⟨t485, A3, H⟩ := qBd H
 by_cases c4 : t485 = 0
 rotate_left
 ·rw [if_neg c4] at H
  have c4b0 := beq_eq_false_iff_ne.mpr c4
  have c4b1 := bne_iff_ne.mpr c4
  simp only [Option.some.injEq, Prod.mk.injEq] at H
  obtain ⟨rfl, rfl, rfl⟩ := H
  go_enter Try.func22, Try.ntmps22
  go_wp2_with (first | ((with_reducible refine gQd (N := 2) rfl ?_); refine xQe ?hg (N := 2) ?hd (cs := #[.int .i64 a0_0, .slice A0_1 l0_1.length c0_1]) (t := 27) ?hr ?_; (case hd => rfl); (case hg => rfl); (case hr => exact tH); intro gb482 hg w20 hbox hb; refine qM4 (bQT tB hb) hbox (tZ w hg) (tZ w hg) ?_; clear HB; intro HB BK482 GW482 GE482; clear hb hbox hg) | ((with_reducible refine gQd (N := 3) rfl ?_); refine xQe ?hg (N := 3) ?hd (cs := #[.int .i64 a1_0, .slice A1_1 l1_1.length c1_1]) (t := 27) ?hr ?_; (case hd => rfl); (case hg => rfl); (case hr => exact tH); intro gb483 hg w21 hbox hb; refine qM7 (tQ BK482.out hb) (bQT tB hb) hbox (tZ w hg) (tZ w hg) ((by rw [hg]; exact Nat.ne_of_lt (blk_lt (g := gb482) (o := .cells #[.int .i64 a0_0, .slice A0_1 l0_1.length c0_1] 27 (0, 0)) (tG BK482.out)) : gb482 ≠ gb483)) ((by rw [hg]; exact Nat.ne_of_gt (blk_lt (g := gb482) (o := .cells #[.int .i64 a0_0, .slice A0_1 l0_1.length c0_1] 27 (0, 0)) (tG BK482.out)) : gb483 ≠ gb482)) ?_; clear BK482 HB; intro BK482 HB BK483 GW483 GE483 NB482_483 NB483_482; clear hb hbox hg) | ((with_reducible refine gQd (N := 4) rfl ?_); refine xQe ?hg (N := 4) ?hd (cs := #[.int .i64 0, .slice none 0 0]) (t := 27) ?hr ?_; (case hd => rfl); (case hg => rfl); (case hr => exact tH); intro gb484 hg w22 hbox hb; refine qM10 (tQ BK482.out hb) (tQ BK483.out hb) (bQT tB hb) hbox (tZ w hg) (tZ w hg) ((by rw [hg]; exact Nat.ne_of_lt (blk_lt (g := gb482) (o := .cells #[.int .i64 a0_0, .slice A0_1 l0_1.length c0_1] 27 (0, 0)) (tG BK482.out)) : gb482 ≠ gb484)) ((by rw [hg]; exact Nat.ne_of_gt (blk_lt (g := gb482) (o := .cells #[.int .i64 a0_0, .slice A0_1 l0_1.length c0_1] 27 (0, 0)) (tG BK482.out)) : gb484 ≠ gb482)) ((by rw [hg]; exact Nat.ne_of_lt (blk_lt (g := gb483) (o := .cells #[.int .i64 a1_0, .slice A1_1 l1_1.length c1_1] 27 (0, 0)) (tG BK483.out)) : gb483 ≠ gb484)) ((by rw [hg]; exact Nat.ne_of_gt (blk_lt (g := gb483) (o := .cells #[.int .i64 a1_0, .slice A1_1 l1_1.length c1_1] 27 (0, 0)) (tG BK483.out)) : gb484 ≠ gb483)) ?_; clear BK482 BK483 HB; intro BK482 BK483 HB BK484 GW484 GE484 NB482_484 NB484_482 NB483_484 NB484_483; clear hb hbox hg; have hnb23 := NB482_483.out; have hnc23 := NB483_482.out; have hnb24 := NB482_484.out; have hnc24 := NB484_482.out; have hcz25_0 : w22.cell? ⟨gb482, 0, none⟩ = some (.int .i64 a0_0) := (kQC BK482.out 0).trans rfl; have hcz25_1 : w22.cell? ⟨gb482, 1, none⟩ = some (.slice A0_1 l0_1.length c0_1) := (kQC BK482.out 1).trans rfl; have hfz25_0 := kQF BK482.out 0; have hfz25_1 := kQF BK482.out 1; have hnb26 := NB483_484.out; have hnc26 := NB484_483.out; have hcz27_0 : w22.cell? ⟨gb483, 0, none⟩ = some (.int .i64 a1_0) := (kQC BK483.out 0).trans rfl; have hcz27_1 : w22.cell? ⟨gb483, 1, none⟩ = some (.slice A1_1 l1_1.length c1_1) := (kQC BK483.out 1).trans rfl; have hfz27_0 := kQF BK483.out 0; have hfz27_1 := kQF BK483.out 1) | ((with_reducible refine gQc (f := 57) rfl ?_); refine goesL_ (some 9) rfl rfl Try.func57 (by kernel_rfl) rfl #[.agg #[.int .i64 a0_0, .slice A0_1 l0_1.length c0_1], .agg #[.int .i64 a1_0, .slice A1_1 l1_1.length c1_1]] rfl tL ?_; (with_reducible refine (impl_spacesCode.calls k a0_0 _ _ l0_1 a1_0 _ _ l1_1 t485 _ ?s1 ?s2 ?s3 ?s4 A3.out).mono ?_); (case s1 => exact tC ((Kd.C_below HR0_1.out HB.out))); (case s2 => exact HC0_1.out); (case s3 => exact tC ((Kd.C_below HR1_1.out HB.out))); (case s4 => exact HC1_1.out); rintro e w28 ⟨rfl, hb⟩; refine ⟨_, rfl, ?_⟩; refine qM4 (tQ BK482.out hb) (tQ BK483.out hb) (tQ BK484.out hb) (bQT tB hb) ?_; clear BK482 BK483 BK484 HB; intro BK482 BK483 BK484 HB; (try clear hb); (try clear hb2); (try clear hk); (try clear hi); have hcz29_0 : w28.cell? ⟨gb484, 0, none⟩ = some (.int .i64 0) := (kQC BK484.out 0).trans rfl; have hcz29_1 : w28.cell? ⟨gb484, 1, none⟩ = some (.slice none 0 0) := (kQC BK484.out 1).trans rfl; have hfz29_0 := kQF BK484.out 0; have hfz29_1 := kQF BK484.out 1))
  refine bodyPost_ret (results_ct rfl _ _ gb484 27 #[.int .i64 0, .slice none 0 0] (0, 0) _ rfl (by (with_reducible repeat (first | refine kQN ?_ _ | refine kQD ?_ | refine kQA ?_ _)); refine kQP (cs := #[.int .i64 0, .slice none 0 0]) ?_ 1 _ rfl; (with_reducible repeat (first | refine kQN ?_ _ | refine kQD ?_ | refine kQA ?_ _)); refine kQP (cs := #[.int .i64 0, .slice none 0 0]) ?_ 0 _ rfl; (with_reducible repeat (first | refine kQN ?_ _ | refine kQD ?_ | refine kQA ?_ _)); exact BK484.out) Try.underlying27 rfl (by kernel_rfl)) rfl ?_
  exact ⟨_, tE, by first | exact Kd.R_nil _ _ _ _ _ | exact Kd.N_nil _ _ _ _ _ | exact Kd.V_nil _ _ _ _ _ | exact Kd.Q_nil _ _ _ _ _ | exact Kd.S_nil _ _ _ _ _, tB⟩
 rw [if_pos c4] at H
 have c4b0 := beq_iff_eq.mpr c4
 have c4b1 := bne_eq_false_iff_eq.mpr c4
 clear c4
 obtain ⟨⟨t486, t487⟩, A5, H⟩ := qBd H
 (try dsimp only at H)
 simp only [Option.some.injEq, Prod.mk.injEq] at H
 obtain ⟨rfl, rfl, rfl⟩ := H
 go_enter Try.func22, Try.ntmps22
 go_wp2_with (first | ((with_reducible refine gQd (N := 2) rfl ?_); refine xQe ?hg (N := 2) ?hd (cs := #[.int .i64 a0_0, .slice A0_1 l0_1.length c0_1]) (t := 27) ?hr ?_; (case hd => rfl); (case hg => rfl); (case hr => exact tH); intro gb482 hg w6 hbox hb; refine qM4 (bQT tB hb) hbox (tZ w hg) (tZ w hg) ?_; clear HB; intro HB BK482 GW482 GE482; clear hb hbox hg) | ((with_reducible refine gQd (N := 3) rfl ?_); refine xQe ?hg (N := 3) ?hd (cs := #[.int .i64 a1_0, .slice A1_1 l1_1.length c1_1]) (t := 27) ?hr ?_; (case hd => rfl); (case hg => rfl); (case hr => exact tH); intro gb483 hg w7 hbox hb; refine qM7 (tQ BK482.out hb) (bQT tB hb) hbox (tZ w hg) (tZ w hg) ((by rw [hg]; exact Nat.ne_of_lt (blk_lt (g := gb482) (o := .cells #[.int .i64 a0_0, .slice A0_1 l0_1.length c0_1] 27 (0, 0)) (tG BK482.out)) : gb482 ≠ gb483)) ((by rw [hg]; exact Nat.ne_of_gt (blk_lt (g := gb482) (o := .cells #[.int .i64 a0_0, .slice A0_1 l0_1.length c0_1] 27 (0, 0)) (tG BK482.out)) : gb483 ≠ gb482)) ?_; clear BK482 HB; intro BK482 HB BK483 GW483 GE483 NB482_483 NB483_482; clear hb hbox hg) | ((with_reducible refine gQd (N := 4) rfl ?_); refine xQe ?hg (N := 4) ?hd (cs := #[.int .i64 0, .slice none 0 0]) (t := 27) ?hr ?_; (case hd => rfl); (case hg => rfl); (case hr => exact tH); intro gb484 hg w8 hbox hb; refine qM10 (tQ BK482.out hb) (tQ BK483.out hb) (bQT tB hb) hbox (tZ w hg) (tZ w hg) ((by rw [hg]; exact Nat.ne_of_lt (blk_lt (g := gb482) (o := .cells #[.int .i64 a0_0, .slice A0_1 l0_1.length c0_1] 27 (0, 0)) (tG BK482.out)) : gb482 ≠ gb484)) ((by rw [hg]; exact Nat.ne_of_gt (blk_lt (g := gb482) (o := .cells #[.int .i64 a0_0, .slice A0_1 l0_1.length c0_1] 27 (0, 0)) (tG BK482.out)) : gb484 ≠ gb482)) ((by rw [hg]; exact Nat.ne_of_lt (blk_lt (g := gb483) (o := .cells #[.int .i64 a1_0, .slice A1_1 l1_1.length c1_1] 27 (0, 0)) (tG BK483.out)) : gb483 ≠ gb484)) ((by rw [hg]; exact Nat.ne_of_gt (blk_lt (g := gb483) (o := .cells #[.int .i64 a1_0, .slice A1_1 l1_1.length c1_1] 27 (0, 0)) (tG BK483.out)) : gb484 ≠ gb483)) ?_; clear BK482 BK483 HB; intro BK482 BK483 HB BK484 GW484 GE484 NB482_484 NB484_482 NB483_484 NB484_483; clear hb hbox hg; have hnb9 := NB482_483.out; have hnc9 := NB483_482.out; have hnb10 := NB482_484.out; have hnc10 := NB484_482.out; have hcz11_0 : w8.cell? ⟨gb482, 0, none⟩ = some (.int .i64 a0_0) := (kQC BK482.out 0).trans rfl; have hcz11_1 : w8.cell? ⟨gb482, 1, none⟩ = some (.slice A0_1 l0_1.length c0_1) := (kQC BK482.out 1).trans rfl; have hfz11_0 := kQF BK482.out 0; have hfz11_1 := kQF BK482.out 1; have hnb12 := NB483_484.out; have hnc12 := NB484_483.out; have hcz13_0 : w8.cell? ⟨gb483, 0, none⟩ = some (.int .i64 a1_0) := (kQC BK483.out 0).trans rfl; have hcz13_1 : w8.cell? ⟨gb483, 1, none⟩ = some (.slice A1_1 l1_1.length c1_1) := (kQC BK483.out 1).trans rfl; have hfz13_0 := kQF BK483.out 0; have hfz13_1 := kQF BK483.out 1) | ((with_reducible refine gQc (f := 57) rfl ?_); refine goesL_ (some 9) rfl rfl Try.func57 (by kernel_rfl) rfl #[.agg #[.int .i64 a0_0, .slice A0_1 l0_1.length c0_1], .agg #[.int .i64 a1_0, .slice A1_1 l1_1.length c1_1]] rfl tL ?_; (with_reducible refine (impl_spacesCode.calls k a0_0 _ _ l0_1 a1_0 _ _ l1_1 t485 _ ?s1 ?s2 ?s3 ?s4 A3.out).mono ?_); (case s1 => exact tC ((Kd.C_below HR0_1.out HB.out))); (case s2 => exact HC0_1.out); (case s3 => exact tC ((Kd.C_below HR1_1.out HB.out))); (case s4 => exact HC1_1.out); rintro e w14 ⟨rfl, hb⟩; refine ⟨_, rfl, ?_⟩; refine qM4 (tQ BK482.out hb) (tQ BK483.out hb) (tQ BK484.out hb) (bQT tB hb) ?_; clear BK482 BK483 BK484 HB; intro BK482 BK483 BK484 HB; (try clear hb); (try clear hb2); (try clear hk); (try clear hi); have hcz15_0 : w14.cell? ⟨gb482, 0, none⟩ = some (.int .i64 a0_0) := (kQC BK482.out 0).trans rfl; have hcz15_1 : w14.cell? ⟨gb482, 1, none⟩ = some (.slice A0_1 l0_1.length c0_1) := (kQC BK482.out 1).trans rfl; have hfz15_0 := kQF BK482.out 0; have hfz15_1 := kQF BK482.out 1; have hcz16_0 : w14.cell? ⟨gb483, 0, none⟩ = some (.int .i64 a1_0) := (kQC BK483.out 0).trans rfl; have hcz16_1 : w14.cell? ⟨gb483, 1, none⟩ = some (.slice A1_1 l1_1.length c1_1) := (kQC BK483.out 1).trans rfl; have hfz16_0 := kQF BK483.out 0; have hfz16_1 := kQF BK483.out 1) | ((with_reducible refine gQc (f := 59) rfl ?_); refine goesL_ (some 16) rfl rfl Try.func59 (by kernel_rfl) rfl #[.agg #[.int .i64 a0_0, .slice A0_1 l0_1.length c0_1], .agg #[.int .i64 a1_0, .slice A1_1 l1_1.length c1_1]] rfl tL ?_; (with_reducible refine (impl_Matrix_meet.calls k a0_0 _ _ l0_1 a1_0 _ _ l1_1 t486 t487 _ ?s1 ?s2 ?s3 ?s4 A5.out).mono ?_); (case s1 => exact tC ((Kd.C_below HR0_1.out HB.out))); (case s2 => exact HC0_1.out); (case s3 => exact tC ((Kd.C_below HR1_1.out HB.out))); (case s4 => exact HC1_1.out); rintro e w17 ⟨v488, rfl, ho0, hb⟩; refine ⟨_, rfl, ?_⟩; refine qM5 (Kd.R_lower ho0 (bQZ tB)) (tQ BK482.out hb) (tQ BK483.out hb) (tQ BK484.out hb) (bQT tB hb) ?_; clear BK482 BK483 BK484 HB; intro HO489 BK482 BK483 BK484 HB; (try clear hb); (try clear hb2); (try clear hk); (try clear hi); (try clear ho0); have hcz18_0 : w17.cell? ⟨gb484, 0, none⟩ = some (.int .i64 0) := (kQC BK484.out 0).trans rfl; have hcz18_1 : w17.cell? ⟨gb484, 1, none⟩ = some (.slice none 0 0) := (kQC BK484.out 1).trans rfl; have hfz18_0 := kQF BK484.out 0; have hfz18_1 := kQF BK484.out 1; obtain ⟨Ao19, co19, eo19⟩ := Kd.R_slice HO489.out; subst eo19))
 refine bodyPost_ret (results_ct rfl _ _ gb484 27 #[.int .i64 t486, .slice Ao19 t487.length co19] (0, 0) _ rfl (by (with_reducible repeat (first | refine kQN ?_ _ | refine kQD ?_ | refine kQA ?_ _)); refine kQP (cs := #[.int .i64 t486, .slice none 0 0]) ?_ 1 _ rfl; (with_reducible repeat (first | refine kQN ?_ _ | refine kQD ?_ | refine kQA ?_ _)); refine kQP (cs := #[.int .i64 0, .slice none 0 0]) ?_ 0 _ rfl; (with_reducible repeat (first | refine kQN ?_ _ | refine kQD ?_ | refine kQA ?_ _)); exact BK484.out) Try.underlying27 rfl (by kernel_rfl)) rfl ?_
 exact ⟨_, tE, by (with_reducible repeat (first | apply Kd.RqA | apply Kd.RqN | apply Kd.RqD)); exact Kd.R_mono (Kd.R_far (p := ⟨gb484, 1, none⟩) (Kd.R_far (p := ⟨gb484, 0, none⟩) (Kd.R_types HO489.out BK484.out (by decide)) (fun _ hk => hk.2) (.int .i64 t486)) (fun _ hk => hk.2) (.slice Ao19 t487.length co19)) (fun _ hk => trivial), tB⟩
end Go.Proofs.Ythjfilmdobkmlaa.P
