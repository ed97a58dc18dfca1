/- Functions of the program and what they tell, as the printing program wrote it. -/
import Derived.Test.YthjfilmdobkmlaaPx0
import Derived.Test.YthjfilmdobkmlaaPx35
import Derived.Test.YthjfilmdobkmlaaPx36
import Derived.Test.YthjfilmdobkmlaaPx37
import Derived.Test.YthjfilmdobkmlaaPx38
import Derived.Test.YthjfilmdobkmlaaPx39
import Derived.Test.YthjfilmdobkmlaaPx43a
namespace Go.Proofs.Ythjfilmdobkmlaa.P
open Go.Shelf Go.RowKit Go.Proofs.YthjfilmdobkmlaaW.PrintWords Go.Proofs.YthjfilmdobkmlaaW.PrintLast Go.Proofs.YthjfilmdobkmlaaW.PrintMore
attribute [local go_sem] max2_int min2_int max_two min_two max_three min_three max_four min_four
set_option linter.unusedVariables false
set_option linter.unusedSimpArgs false
set_option maxHeartbeats 8000000
set_option maxRecDepth 100000
noncomputable def laws_FnExactSendThrough.G5 : (G0_ : Prop) ×' (G1_ : Prop) ×' (laws_FnExactSendThrough.W G0_ → laws_FnExactSendThrough.W G1_ → laws_FnExactSendThrough.G0.2.2.1) := by
 constructor
 constructor
 ·intro hG0_ hG1_
  intro k a0_0 A0_1 c0_1 l0_1 a1_0 A1_1 c1_1 l1_1 a2_0 A2_1 c2_1 l2_1 r w hu55 hu27 HR0_1 HC0_1 HR1_1 HC1_1 HR2_1 HC2_1 za_2_0 t846 A4 za_2_1 c5b0 t847 A13 za_2_2 c14b0 t848 A25 za_2_3 c26b0 t849 t850 A39 za_2_4 t853 t854 A40 za_2_5 t857 t858 A41 za_2_6 t861 t862 t865 A42 za_2_7 t867 t868 A43 za_2_8 t872 t873 A44 za_2_9 t877 t878 A45 H t882 t883 t886 A46 HC47 za_2_10 gb843 w48 GW843 GE843 gb844 w49 GW844 GE844 NB843_844 NB844_843 gb845 w50 GW845 GE845 NB843_845 NB845_843 NB844_845 NB845_844 hnb51 hnc51 hnb52 hnc52 hcz53_0 hcz53_1 hfz53_0 hfz53_1 w54 hnb55 hnc55 hcz56_0 hcz56_1 hfz56_0 hfz56_1 w57 hcz58_0 hcz58_1 hfz58_0 hfz58_1 w59 HT_ HW_ w60 za_2_11 v851 v855 v859 gb866 w69 hS_ GW866 GE866 NB843_866 NB866_843 NB844_866 NB866_844 NB845_866 NB866_845 za_2_12 Ao71 co71 hs70 hfs70 hns70_0 hns70_1 hns70_2 hms70_0 hms70_1 hms70_2 hs72 hfs72 hns72_0 hns72_1 hns72_2 hms72_0 hms72_1 hms72_2 hHeld hnb73 hnc73 hcz74_0 hcz74_1 hfz74_0 hfz74_1 w75 gb871 w76 GW871 GE871 NB843_871 NB871_843 NB844_871 NB871_844 NB845_871 NB871_845 NB866_871 NB871_866 hnb77 hnc77 hnb78 hnc78 hnb79 hnc79 hnb80 hnc80 hcz81_0 hcz81_1 hfz81_0 hfz81_1 Ao82 co82 hnb83 hnc83 hcz84_0 hcz84_1 hfz84_0 hfz84_1 w85 gb876 w86 GW876 GE876 NB843_876 NB876_843 NB844_876 NB876_844 NB845_876 NB876_845 NB866_876 NB876_866 NB871_876 NB876_871 hnb87 hnc87 hnb88 hnc88 hnb89 hnc89 hnb90 hnc90 hnb91 hnc91 hcz92_0 hcz92_1 hfz92_0 hfz92_1 Ao93 co93 hnb94 hnc94 hcz95_0 hcz95_1 hfz95_0 hfz95_1 w96 gb881 w97 GW881 GE881 NB843_881 NB881_843 NB844_881 NB881_844 NB845_881 NB881_845 NB866_881 NB881_866 NB871_881 NB881_871 NB876_881 NB881_876 hnb98 hnc98 hnb99 hnc99 hnb100 hnc100 hnb101 hnc101 hnb102 hnc102 hnb103 hnc103 hcz104_0 hcz104_1 hfz104_0 hfz104_1 Ao105 co105 hcz106_0 hcz106_1 hfz106_0 hfz106_1 hcz107_0 hcz107_1 hfz107_0 hfz107_1 w108 gb887 w109 BK843 BK844 BK845 BK866 BK871 BK876 BK881 HB BK887 GW887 GE887 NB843_887 NB887_843 NB844_887 NB887_844 NB845_887 NB887_845 NB866_887 NB887_866 NB871_887 NB887_871 NB876_887 NB887_876 NB881_887 NB887_881 hnb110 hnc110 hnb111 hnc111 hnb112 hnc112 hnb113 hnc113 hnb114 hnc114 hnb115 hnc115 hnb116 hnc116 hcz117_0 hcz117_1 hfz117_0 hfz117_1 Ao118 co118 HO852 HO856 HO860 HO864 HO870 HO875 HO880 HO885 za_2_13 za_2_14 za_2_15 za_2_16 wc u20 u21 u22 u23 u24 u25 u26 u27 u28 u29 u30 u31 u32 u33 u34 u35 u36 u37 u38 u39 u40 u41 u42 u43 u44 u45 u46 u47 u48 u49 u50 u51 u52 u53 u54 u55 u56 u57 u58 u59 u60 u61 u62 u63 u64 u65 u66 u67 u68 u69 u70 u71 u72 u73 u74 u75 u76 u77 u78 u79 u80 u81 u82 u83 u84 u85 u86 u87 u88 u89 u90 u91 u92 u93 u94 u95 u96 u97 u98 u99 u100 u101 u102 u103 u104 u105 u106 u107 u108 u109 u110 u111 u112 u113 u114 u115 u116 u117 u118 u119 u120 u121 u122 u123 u124 u125 u126 u127 u128 u129 u130 u131 u132 u133 u134 u135 u136 u137 u138 u139 u140 u141 hcut
  clear HC47
  try clear c14
  try clear c120
  try clear hcz104_0
  try clear hcz104_1
  try clear hcz106_0
  try clear hcz106_1
  try clear hcz107_0
  try clear hcz107_1
  try clear hcz117_0
  try clear hcz117_1
  try clear hcz128_0
  try clear hcz128_1
  try clear hcz135_0
  try clear hcz135_1
  try clear hcz144_0
  try clear hcz144_1
  try clear hcz151_0
  try clear hcz151_1
  try clear hcz74_0
  try clear hcz74_1
  try clear hcz81_0
  try clear hcz81_1
  try clear hcz84_0
  try clear hcz84_1
  try clear hcz92_0
  try clear hcz92_1
  try clear hcz95_0
  try clear hcz95_1
  try clear hfz104_0
  try clear hfz104_1
  try clear hfz106_0
  try clear hfz106_1
  try clear hfz107_0
  try clear hfz107_1
  try clear hfz117_0
  try clear hfz117_1
  try clear hfz128_0
  try clear hfz128_1
  try clear hfz135_0
  try clear hfz135_1
  try clear hfz144_0
  try clear hfz144_1
  try clear hfz151_0
  try clear hfz151_1
  try clear hfz74_0
  try clear hfz74_1
  try clear hfz81_0
  try clear hfz81_1
  try clear hfz84_0
  try clear hfz84_1
  try clear hfz92_0
  try clear hfz92_1
  try clear hfz95_0
  try clear hfz95_1
  obtain ⟨kq, x66_46, rfl, HA, HJ46, HO_867001, HO_872001, HO_877001, HO_882001, HO_888001, BK843, BK844, BK845, BK866, BK871, BK876, BK881, BK887, HB⟩ := hcut
  cases kq with
  | zero => exact absurd HA.out (by simp [laws_FnExactSendThrough.j0])
  | succ kj46 =>
   have H := HA.out
   clear HA
   simp only [laws_FnExactSendThrough.j0] at H
   by_cases c153 : x66_46 = true
   ·subst c153
    rw [if_pos rfl] at H
    obtain rfl := Option.some.inj H
    go_wp2
    go_ret
    exact ⟨tE, tB⟩
   replace c153 := Bool.eq_false_iff.mpr c153
   subst c153
   rw [if_neg (show ¬ (false = true) by decide)] at H
   obtain ⟨⟨t889, t890⟩, A154, H⟩ := qBd H
   (try dsimp only at H)
   obtain ⟨t893, A155, H⟩ := qBd H
   by_cases c156 : t893 = true
   rotate_left
   ·replace c156 := Bool.eq_false_iff.mpr c156
    subst c156
    rw [if_neg (show ¬ (false = true) by decide)] at H
    obtain rfl := Option.some.inj H
    try go_wp2
    have n0_ := Aq.mk (Kd.RqD HO_867001.out)
    have n1_ := Aq.mk (Kd.RqD HO_872001.out)
    have n2_ := Aq.mk (Kd.RqD HO_877001.out)
    have n3_ := Aq.mk (Kd.RqD HO_882001.out)
    have n4_ := Aq.mk (Kd.RqD HO_888001.out)
    have n5_ := Aq.mk (kQD BK843.out)
    have n6_ := Aq.mk (kQD BK844.out)
    have n7_ := Aq.mk (kQD BK845.out)
    have n8_ := Aq.mk (kQD BK866.out)
    have n9_ := Aq.mk (kQD BK871.out)
    have n10_ := Aq.mk (kQD BK876.out)
    have n11_ := Aq.mk (kQD BK881.out)
    have n12_ := Aq.mk (kQD BK887.out)
    have n13_ := Aq.mk (bQ1 HB.out)
    clear HO_867001
    clear HO_872001
    clear HO_877001
    clear HO_882001
    clear HO_888001
    clear BK843
    clear BK844
    clear BK845
    clear BK866
    clear BK871
    clear BK876
    clear BK881
    clear BK887
    clear HB
    have HO_867001 := n0_
    have HO_872001 := n1_
    have HO_877001 := n2_
    have HO_882001 := n3_
    have HO_888001 := n4_
    have BK843 := n5_
    have BK844 := n6_
    have BK845 := n7_
    have BK866 := n8_
    have BK871 := n9_
    have BK876 := n10_
    have BK881 := n11_
    have BK887 := n12_
    have HB := n13_
    clear n0_ n1_ n2_ n3_ n4_ n5_ n6_ n7_ n8_ n9_ n10_ n11_ n12_ n13_
    refine start_ (n := 5) (S := fun w' => w'.cell? ⟨gb871, 0, none⟩ = some (.int .i64 t867) ∧ w'.cell? ⟨gb871, 1, none⟩ = some (.slice Ao82 t868.length co82) ∧ w'.cell? ⟨gb843, 0, none⟩ = some (.int .i64 a0_0) ∧ w'.cell? ⟨gb843, 1, none⟩ = some (.slice A0_1 l0_1.length c0_1)) (ds := []) #[false, false, false, false, false] (by kernel_rfl) rfl rfl ⟨(kQC BK871.out 0).trans rfl, (kQC BK871.out 1).trans rfl, (kQC BK843.out 0).trans rfl, (kQC BK843.out 1).trans rfl⟩ (fun hHeld => ?_)
    generalize wc.drew = w386 at HO_867001 HO_872001 HO_877001 HO_882001 HO_888001 BK843 BK844 BK845 BK866 BK871 BK876 BK881 BK887 HB hHeld ⊢
    refine tT4k 0 67 (bm 5 1) ?_
    refine tT4k 1 68 (bm 5 3) ?_
    refine one_ (i := 2) (N := some 69) (bm 5 7) rfl rfl (by kernel_rfl) (by decide) (fun K hK => ?_)
    refine goes_ Try.func33 (by kernel_rfl) rfl #[.agg #[.int .i64 a0_0, .slice A0_1 l0_1.length c0_1]] (by rfl) rfl rfl tL ?_
    with_reducible refine (laws_toMatrix.calls kj46 a0_0 _ _ l0_1 t889 t890 _ ?s1 ?s2 A154.out).mono ?_
    (case s1 => exact tC ((Kd.C_below HR0_1.out HB.out)))
    (case s2 => exact HC0_1.out)
    rintro e w387 ⟨v891, rfl, ho0, hb⟩
    refine ⟨_, rfl, ?_⟩
    have n0_ := Aq.mk (Kd.R_elder' (tR HO_867001.out) (Kd.R_base ho0) hb)
    have n1_ := Aq.mk (Kd.R_elder' (tR HO_872001.out) (Kd.R_base ho0) hb)
    have n2_ := Aq.mk (Kd.R_elder' (tR HO_877001.out) (Kd.R_base ho0) hb)
    have n3_ := Aq.mk (Kd.R_elder' (tR HO_882001.out) (Kd.R_base ho0) hb)
    have n4_ := Aq.mk (Kd.R_elder' (tR HO_888001.out) (Kd.R_base ho0) hb)
    have n5_ := Aq.mk (Kd.R_lower (Kd.R_new' (Kd.R_new' (Kd.R_new' (Kd.R_new' (Kd.R_new' ho0 (Kd.R_lt (tR HO_867001.out))) (Kd.R_lt (tR HO_872001.out))) (Kd.R_lt (tR HO_877001.out))) (Kd.R_lt (tR HO_882001.out))) (Kd.R_lt (tR HO_888001.out))) (bQZ tB))
    have n6_ := Aq.mk (tQ BK843.out hb)
    have n7_ := Aq.mk (tQ BK844.out hb)
    have n8_ := Aq.mk (tQ BK845.out hb)
    have n9_ := Aq.mk (tQ BK866.out hb)
    have n10_ := Aq.mk (tQ BK871.out hb)
    have n11_ := Aq.mk (tQ BK876.out hb)
    have n12_ := Aq.mk (tQ BK881.out hb)
    have n13_ := Aq.mk (tQ BK887.out hb)
    have n14_ := Aq.mk (bQT tB hb)
    clear HO_867001
    clear HO_872001
    clear HO_877001
    clear HO_882001
    clear HO_888001
    clear BK843
    clear BK844
    clear BK845
    clear BK866
    clear BK871
    clear BK876
    clear BK881
    clear BK887
    clear HB
    have HO_867001 := n0_
    have HO_872001 := n1_
    have HO_877001 := n2_
    have HO_882001 := n3_
    have HO_888001 := n4_
    have HO892 := n5_
    have BK843 := n6_
    have BK844 := n7_
    have BK845 := n8_
    have BK866 := n9_
    have BK871 := n10_
    have BK876 := n11_
    have BK881 := n12_
    have BK887 := n13_
    have HB := n14_
    clear n0_ n1_ n2_ n3_ n4_ n5_ n6_ n7_ n8_ n9_ n10_ n11_ n12_ n13_ n14_
    (try clear hb)
    (try clear hb2)
    (try clear hk)
    (try clear hi)
    (try clear ho0)
    obtain ⟨Ao388, co388, eo388⟩ := Kd.R_slice HO892.out
    (first | subst eo388 | (injection eo388 with f1_ f2_ f3_; have f4_ := f1_.symm; have f5_ := f3_.symm; clear f1_ f2_ f3_; subst f4_; subst f5_))
    refine hK.out _ _ ⟨(kQC BK871.out 0).trans rfl, (kQC BK871.out 1).trans rfl, (kQC BK843.out 0).trans rfl, (kQC BK843.out 1).trans rfl⟩ (fun hHeld => ?_)
    clear hK K
    refine tN 69 ?_
    refine one_ (i := 3) (N := some 70) (bm 5 15) rfl rfl (by kernel_rfl) (by decide) (fun K hK => ?_)
    refine goes_ Try.func35 (by kernel_rfl) rfl #[.agg #[.int .i64 t867, .slice Ao82 t868.length co82], .agg #[.int .i64 t889, .slice Ao388 t890.length co388]] (by rfl) rfl rfl tL ?_
    with_reducible refine (laws_eqMatrix.calls kj46 t867 _ _ t868 t889 _ _ t890 false _ ?s1 ?s2 ?s3 ?s4 A155.out).mono ?_
    (case s1 => exact tC ((Kd.R_reads' HO_872001.out).2.2))
    (case s2 => exact (Kd.R_reads' HO_872001.out).2.1)
    (case s3 => exact tC ((Kd.R_reads' HO892.out).2.2))
    (case s4 => exact (Kd.R_reads' HO892.out).2.1)
    rintro e w389 ⟨rfl, hb⟩
    refine ⟨_, rfl, ?_⟩
    have n0_ := Aq.mk (Kd.R_below (tR HO_867001.out) hb)
    have n1_ := Aq.mk (Kd.R_below (tR HO_872001.out) hb)
    have n2_ := Aq.mk (Kd.R_below (tR HO_877001.out) hb)
    have n3_ := Aq.mk (Kd.R_below (tR HO_882001.out) hb)
    have n4_ := Aq.mk (Kd.R_below (tR HO_888001.out) hb)
    have n5_ := Aq.mk (Kd.R_below (tR HO892.out) hb)
    have n6_ := Aq.mk (tQ BK843.out hb)
    have n7_ := Aq.mk (tQ BK844.out hb)
    have n8_ := Aq.mk (tQ BK845.out hb)
    have n9_ := Aq.mk (tQ BK866.out hb)
    have n10_ := Aq.mk (tQ BK871.out hb)
    have n11_ := Aq.mk (tQ BK876.out hb)
    have n12_ := Aq.mk (tQ BK881.out hb)
    have n13_ := Aq.mk (tQ BK887.out hb)
    have n14_ := Aq.mk (bQT tB hb)
    clear HO_867001
    clear HO_872001
    clear HO_877001
    clear HO_882001
    clear HO_888001
    clear HO892
    clear BK843
    clear BK844
    clear BK845
    clear BK866
    clear BK871
    clear BK876
    clear BK881
    clear BK887
    clear HB
    have HO_867001 := n0_
    have HO_872001 := n1_
    have HO_877001 := n2_
    have HO_882001 := n3_
    have HO_888001 := n4_
    have HO892 := n5_
    have BK843 := n6_
    have BK844 := n7_
    have BK845 := n8_
    have BK866 := n9_
    have BK871 := n10_
    have BK876 := n11_
    have BK881 := n12_
    have BK887 := n13_
    have HB := n14_
    clear n0_ n1_ n2_ n3_ n4_ n5_ n6_ n7_ n8_ n9_ n10_ n11_ n12_ n13_ n14_
    (try clear hb)
    (try clear hb2)
    (try clear hk)
    (try clear hi)
    refine hK.out _ _ ⟨(kQC BK871.out 0).trans rfl, (kQC BK871.out 1).trans rfl, (kQC BK843.out 0).trans rfl, (kQC BK843.out 1).trans rfl⟩ (fun hHeld => ?_)
    clear hK K
    refine tN 70 ?_
    refine tP0k 4 71 (bm 5 31) ?_
    refine done_ (by kernel_rfl) ?_
    try go_wp2
    go_ret
    exact ⟨tE, tB⟩
   subst c156
   rw [if_pos rfl] at H
   obtain ⟨⟨t894, t895⟩, A157, H⟩ := qBd H
   (try dsimp only at H)
   obtain ⟨t898, A158, H⟩ := qBd H
   by_cases c159 : t898 = true
   rotate_left
   ·replace c159 := Bool.eq_false_iff.mpr c159
    subst c159
    rw [if_neg (show ¬ (false = true) by decide)] at H
    obtain rfl := Option.some.inj H
    try go_wp2
    have n0_ := Aq.mk (Kd.RqD HO_867001.out)
    have n1_ := Aq.mk (Kd.RqD HO_872001.out)
    have n2_ := Aq.mk (Kd.RqD HO_877001.out)
    have n3_ := Aq.mk (Kd.RqD HO_882001.out)
    have n4_ := Aq.mk (Kd.RqD HO_888001.out)
    have n5_ := Aq.mk (kQD BK843.out)
    have n6_ := Aq.mk (kQD BK844.out)
    have n7_ := Aq.mk (kQD BK845.out)
    have n8_ := Aq.mk (kQD BK866.out)
    have n9_ := Aq.mk (kQD BK871.out)
    have n10_ := Aq.mk (kQD BK876.out)
    have n11_ := Aq.mk (kQD BK881.out)
    have n12_ := Aq.mk (kQD BK887.out)
    have n13_ := Aq.mk (bQ1 HB.out)
    clear HO_867001
    clear HO_872001
    clear HO_877001
    clear HO_882001
    clear HO_888001
    clear BK843
    clear BK844
    clear BK845
    clear BK866
    clear BK871
    clear BK876
    clear BK881
    clear BK887
    clear HB
    have HO_867001 := n0_
    have HO_872001 := n1_
    have HO_877001 := n2_
    have HO_882001 := n3_
    have HO_888001 := n4_
    have BK843 := n5_
    have BK844 := n6_
    have BK845 := n7_
    have BK866 := n8_
    have BK871 := n9_
    have BK876 := n10_
    have BK881 := n11_
    have BK887 := n12_
    have HB := n13_
    clear n0_ n1_ n2_ n3_ n4_ n5_ n6_ n7_ n8_ n9_ n10_ n11_ n12_ n13_
    refine start_ (n := 5) (S := fun w' => w'.cell? ⟨gb871, 0, none⟩ = some (.int .i64 t867) ∧ w'.cell? ⟨gb871, 1, none⟩ = some (.slice Ao82 t868.length co82) ∧ w'.cell? ⟨gb843, 0, none⟩ = some (.int .i64 a0_0) ∧ w'.cell? ⟨gb843, 1, none⟩ = some (.slice A0_1 l0_1.length c0_1)) (ds := []) #[false, false, false, false, false] (by kernel_rfl) rfl rfl ⟨(kQC BK871.out 0).trans rfl, (kQC BK871.out 1).trans rfl, (kQC BK843.out 0).trans rfl, (kQC BK843.out 1).trans rfl⟩ (fun hHeld => ?_)
    generalize wc.drew = w378 at HO_867001 HO_872001 HO_877001 HO_882001 HO_888001 BK843 BK844 BK845 BK866 BK871 BK876 BK881 BK887 HB hHeld ⊢
    refine tT4k 0 67 (bm 5 1) ?_
    refine tT4k 1 68 (bm 5 3) ?_
    refine one_ (i := 2) (N := some 69) (bm 5 7) rfl rfl (by kernel_rfl) (by decide) (fun K hK => ?_)
    refine goes_ Try.func33 (by kernel_rfl) rfl #[.agg #[.int .i64 a0_0, .slice A0_1 l0_1.length c0_1]] (by rfl) rfl rfl tL ?_
    with_reducible refine (laws_toMatrix.calls kj46 a0_0 _ _ l0_1 t889 t890 _ ?s1 ?s2 A154.out).mono ?_
    (case s1 => exact tC ((Kd.C_below HR0_1.out HB.out)))
    (case s2 => exact HC0_1.out)
    rintro e w379 ⟨v891, rfl, ho0, hb⟩
    refine ⟨_, rfl, ?_⟩
    have n0_ := Aq.mk (Kd.R_elder' (tR HO_867001.out) (Kd.R_base ho0) hb)
    have n1_ := Aq.mk (Kd.R_elder' (tR HO_872001.out) (Kd.R_base ho0) hb)
    have n2_ := Aq.mk (Kd.R_elder' (tR HO_877001.out) (Kd.R_base ho0) hb)
    have n3_ := Aq.mk (Kd.R_elder' (tR HO_882001.out) (Kd.R_base ho0) hb)
    have n4_ := Aq.mk (Kd.R_elder' (tR HO_888001.out) (Kd.R_base ho0) hb)
    have n5_ := Aq.mk (Kd.R_lower (Kd.R_new' (Kd.R_new' (Kd.R_new' (Kd.R_new' (Kd.R_new' ho0 (Kd.R_lt (tR HO_867001.out))) (Kd.R_lt (tR HO_872001.out))) (Kd.R_lt (tR HO_877001.out))) (Kd.R_lt (tR HO_882001.out))) (Kd.R_lt (tR HO_888001.out))) (bQZ tB))
    have n6_ := Aq.mk (tQ BK843.out hb)
    have n7_ := Aq.mk (tQ BK844.out hb)
    have n8_ := Aq.mk (tQ BK845.out hb)
    have n9_ := Aq.mk (tQ BK866.out hb)
    have n10_ := Aq.mk (tQ BK871.out hb)
    have n11_ := Aq.mk (tQ BK876.out hb)
    have n12_ := Aq.mk (tQ BK881.out hb)
    have n13_ := Aq.mk (tQ BK887.out hb)
    have n14_ := Aq.mk (bQT tB hb)
    clear HO_867001
    clear HO_872001
    clear HO_877001
    clear HO_882001
    clear HO_888001
    clear BK843
    clear BK844
    clear BK845
    clear BK866
    clear BK871
    clear BK876
    clear BK881
    clear BK887
    clear HB
    have HO_867001 := n0_
    have HO_872001 := n1_
    have HO_877001 := n2_
    have HO_882001 := n3_
    have HO_888001 := n4_
    have HO892 := n5_
    have BK843 := n6_
    have BK844 := n7_
    have BK845 := n8_
    have BK866 := n9_
    have BK871 := n10_
    have BK876 := n11_
    have BK881 := n12_
    have BK887 := n13_
    have HB := n14_
    clear n0_ n1_ n2_ n3_ n4_ n5_ n6_ n7_ n8_ n9_ n10_ n11_ n12_ n13_ n14_
    (try clear hb)
    (try clear hb2)
    (try clear hk)
    (try clear hi)
    (try clear ho0)
    obtain ⟨Ao380, co380, eo380⟩ := Kd.R_slice HO892.out
    (first | subst eo380 | (injection eo380 with f1_ f2_ f3_; have f4_ := f1_.symm; have f5_ := f3_.symm; clear f1_ f2_ f3_; subst f4_; subst f5_))
    refine hK.out _ _ ⟨(kQC BK871.out 0).trans rfl, (kQC BK871.out 1).trans rfl, (kQC BK843.out 0).trans rfl, (kQC BK843.out 1).trans rfl⟩ (fun hHeld => ?_)
    clear hK K
    refine tN 69 ?_
    refine one_ (i := 3) (N := some 70) (bm 5 15) rfl rfl (by kernel_rfl) (by decide) (fun K hK => ?_)
    refine goes_ Try.func35 (by kernel_rfl) rfl #[.agg #[.int .i64 t867, .slice Ao82 t868.length co82], .agg #[.int .i64 t889, .slice Ao380 t890.length co380]] (by rfl) rfl rfl tL ?_
    with_reducible refine (laws_eqMatrix.calls kj46 t867 _ _ t868 t889 _ _ t890 true _ ?s1 ?s2 ?s3 ?s4 A155.out).mono ?_
    (case s1 => exact tC ((Kd.R_reads' HO_872001.out).2.2))
    (case s2 => exact (Kd.R_reads' HO_872001.out).2.1)
    (case s3 => exact tC ((Kd.R_reads' HO892.out).2.2))
    (case s4 => exact (Kd.R_reads' HO892.out).2.1)
    rintro e w381 ⟨rfl, hb⟩
    refine ⟨_, rfl, ?_⟩
    have n0_ := Aq.mk (Kd.R_below (tR HO_867001.out) hb)
    have n1_ := Aq.mk (Kd.R_below (tR HO_872001.out) hb)
    have n2_ := Aq.mk (Kd.R_below (tR HO_877001.out) hb)
    have n3_ := Aq.mk (Kd.R_below (tR HO_882001.out) hb)
    have n4_ := Aq.mk (Kd.R_below (tR HO_888001.out) hb)
    have n5_ := Aq.mk (Kd.R_below (tR HO892.out) hb)
    have n6_ := Aq.mk (tQ BK843.out hb)
    have n7_ := Aq.mk (tQ BK844.out hb)
    have n8_ := Aq.mk (tQ BK845.out hb)
    have n9_ := Aq.mk (tQ BK866.out hb)
    have n10_ := Aq.mk (tQ BK871.out hb)
    have n11_ := Aq.mk (tQ BK876.out hb)
    have n12_ := Aq.mk (tQ BK881.out hb)
    have n13_ := Aq.mk (tQ BK887.out hb)
    have n14_ := Aq.mk (bQT tB hb)
    clear HO_867001
    clear HO_872001
    clear HO_877001
    clear HO_882001
    clear HO_888001
    clear HO892
    clear BK843
    clear BK844
    clear BK845
    clear BK866
    clear BK871
    clear BK876
    clear BK881
    clear BK887
    clear HB
    have HO_867001 := n0_
    have HO_872001 := n1_
    have HO_877001 := n2_
    have HO_882001 := n3_
    have HO_888001 := n4_
    have HO892 := n5_
    have BK843 := n6_
    have BK844 := n7_
    have BK845 := n8_
    have BK866 := n9_
    have BK871 := n10_
    have BK876 := n11_
    have BK881 := n12_
    have BK887 := n13_
    have HB := n14_
    clear n0_ n1_ n2_ n3_ n4_ n5_ n6_ n7_ n8_ n9_ n10_ n11_ n12_ n13_ n14_
    (try clear hb)
    (try clear hb2)
    (try clear hk)
    (try clear hi)
    refine hK.out _ _ ⟨(kQC BK871.out 0).trans rfl, (kQC BK871.out 1).trans rfl, (kQC BK843.out 0).trans rfl, (kQC BK843.out 1).trans rfl⟩ (fun hHeld => ?_)
    clear hK K
    refine tN 70 ?_
    refine tP0k 4 71 (bm 5 31) ?_
    refine done_ (by kernel_rfl) ?_
    try go_wp2
    have n0_ := Aq.mk (Kd.RqD HO_867001.out)
    have n1_ := Aq.mk (Kd.RqD HO_872001.out)
    have n2_ := Aq.mk (Kd.RqD HO_877001.out)
    have n3_ := Aq.mk (Kd.RqD HO_882001.out)
    have n4_ := Aq.mk (Kd.RqD HO_888001.out)
    have n5_ := Aq.mk (Kd.RqD HO892.out)
    have n6_ := Aq.mk (kQD BK843.out)
    have n7_ := Aq.mk (kQD BK844.out)
    have n8_ := Aq.mk (kQD BK845.out)
    have n9_ := Aq.mk (kQD BK866.out)
    have n10_ := Aq.mk (kQD BK871.out)
    have n11_ := Aq.mk (kQD BK876.out)
    have n12_ := Aq.mk (kQD BK881.out)
    have n13_ := Aq.mk (kQD BK887.out)
    have n14_ := Aq.mk (bQ1 HB.out)
    clear HO_867001
    clear HO_872001
    clear HO_877001
    clear HO_882001
    clear HO_888001
    clear HO892
    clear BK843
    clear BK844
    clear BK845
    clear BK866
    clear BK871
    clear BK876
    clear BK881
    clear BK887
    clear HB
    have HO_867001 := n0_
    have HO_872001 := n1_
    have HO_877001 := n2_
    have HO_882001 := n3_
    have HO_888001 := n4_
    have HO892 := n5_
    have BK843 := n6_
    have BK844 := n7_
    have BK845 := n8_
    have BK866 := n9_
    have BK871 := n10_
    have BK876 := n11_
    have BK881 := n12_
    have BK887 := n13_
    have HB := n14_
    clear n0_ n1_ n2_ n3_ n4_ n5_ n6_ n7_ n8_ n9_ n10_ n11_ n12_ n13_ n14_
    refine start_ (n := 5) (S := fun w' => w'.cell? ⟨gb876, 0, none⟩ = some (.int .i64 t872) ∧ w'.cell? ⟨gb876, 1, none⟩ = some (.slice Ao93 t873.length co93) ∧ w'.cell? ⟨gb844, 0, none⟩ = some (.int .i64 a1_0) ∧ w'.cell? ⟨gb844, 1, none⟩ = some (.slice A1_1 l1_1.length c1_1)) (ds := []) #[false, false, false, false, false] (by kernel_rfl) rfl rfl ⟨(kQC BK876.out 0).trans rfl, (kQC BK876.out 1).trans rfl, (kQC BK844.out 0).trans rfl, (kQC BK844.out 1).trans rfl⟩ (fun hHeld => ?_)
    generalize w381.drew = w382 at HO_867001 HO_872001 HO_877001 HO_882001 HO_888001 HO892 BK843 BK844 BK845 BK866 BK871 BK876 BK881 BK887 HB hHeld ⊢
    refine tT4k 0 72 (bm 5 1) ?_
    refine tT4k 1 73 (bm 5 3) ?_
    refine one_ (i := 2) (N := some 74) (bm 5 7) rfl rfl (by kernel_rfl) (by decide) (fun K hK => ?_)
    refine goes_ Try.func33 (by kernel_rfl) rfl #[.agg #[.int .i64 a1_0, .slice A1_1 l1_1.length c1_1]] (by rfl) rfl rfl tL ?_
    with_reducible refine (laws_toMatrix.calls kj46 a1_0 _ _ l1_1 t894 t895 _ ?s1 ?s2 A157.out).mono ?_
    (case s1 => exact tC ((Kd.C_below HR1_1.out HB.out)))
    (case s2 => exact HC1_1.out)
    rintro e w383 ⟨v896, rfl, ho0, hb⟩
    refine ⟨_, rfl, ?_⟩
    have n0_ := Aq.mk (Kd.R_elder' (tR HO_867001.out) (Kd.R_base ho0) hb)
    have n1_ := Aq.mk (Kd.R_elder' (tR HO_872001.out) (Kd.R_base ho0) hb)
    have n2_ := Aq.mk (Kd.R_elder' (tR HO_877001.out) (Kd.R_base ho0) hb)
    have n3_ := Aq.mk (Kd.R_elder' (tR HO_882001.out) (Kd.R_base ho0) hb)
    have n4_ := Aq.mk (Kd.R_elder' (tR HO_888001.out) (Kd.R_base ho0) hb)
    have n5_ := Aq.mk (Kd.R_elder' (tR HO892.out) (Kd.R_base ho0) hb)
    have n6_ := Aq.mk (Kd.R_lower (Kd.R_new' (Kd.R_new' (Kd.R_new' (Kd.R_new' (Kd.R_new' (Kd.R_new' ho0 (Kd.R_lt (tR HO_867001.out))) (Kd.R_lt (tR HO_872001.out))) (Kd.R_lt (tR HO_877001.out))) (Kd.R_lt (tR HO_882001.out))) (Kd.R_lt (tR HO_888001.out))) (Kd.R_lt (tR HO892.out))) (bQZ tB))
    have n7_ := Aq.mk (tQ BK843.out hb)
    have n8_ := Aq.mk (tQ BK844.out hb)
    have n9_ := Aq.mk (tQ BK845.out hb)
    have n10_ := Aq.mk (tQ BK866.out hb)
    have n11_ := Aq.mk (tQ BK871.out hb)
    have n12_ := Aq.mk (tQ BK876.out hb)
    have n13_ := Aq.mk (tQ BK881.out hb)
    have n14_ := Aq.mk (tQ BK887.out hb)
    have n15_ := Aq.mk (bQT tB hb)
    clear HO_867001
    clear HO_872001
    clear HO_877001
    clear HO_882001
    clear HO_888001
    clear HO892
    clear BK843
    clear BK844
    clear BK845
    clear BK866
    clear BK871
    clear BK876
    clear BK881
    clear BK887
    clear HB
    have HO_867001 := n0_
    have HO_872001 := n1_
    have HO_877001 := n2_
    have HO_882001 := n3_
    have HO_888001 := n4_
    have HO892 := n5_
    have HO897 := n6_
    have BK843 := n7_
    have BK844 := n8_
    have BK845 := n9_
    have BK866 := n10_
    have BK871 := n11_
    have BK876 := n12_
    have BK881 := n13_
    have BK887 := n14_
    have HB := n15_
    clear n0_ n1_ n2_ n3_ n4_ n5_ n6_ n7_ n8_ n9_ n10_ n11_ n12_ n13_ n14_ n15_
    (try clear hb)
    (try clear hb2)
    (try clear hk)
    (try clear hi)
    (try clear ho0)
    obtain ⟨Ao384, co384, eo384⟩ := Kd.R_slice HO897.out
    (first | subst eo384 | (injection eo384 with f1_ f2_ f3_; have f4_ := f1_.symm; have f5_ := f3_.symm; clear f1_ f2_ f3_; subst f4_; subst f5_))
    refine hK.out _ _ ⟨(kQC BK876.out 0).trans rfl, (kQC BK876.out 1).trans rfl, (kQC BK844.out 0).trans rfl, (kQC BK844.out 1).trans rfl⟩ (fun hHeld => ?_)
    clear hK K
    refine tN 74 ?_
    refine one_ (i := 3) (N := some 75) (bm 5 15) rfl rfl (by kernel_rfl) (by decide) (fun K hK => ?_)
    refine goes_ Try.func35 (by kernel_rfl) rfl #[.agg #[.int .i64 t872, .slice Ao93 t873.length co93], .agg #[.int .i64 t894, .slice Ao384 t895.length co384]] (by rfl) rfl rfl tL ?_
    with_reducible refine (laws_eqMatrix.calls kj46 t872 _ _ t873 t894 _ _ t895 false _ ?s1 ?s2 ?s3 ?s4 A158.out).mono ?_
    (case s1 => exact tC ((Kd.R_reads' HO_877001.out).2.2))
    (case s2 => exact (Kd.R_reads' HO_877001.out).2.1)
    (case s3 => exact tC ((Kd.R_reads' HO897.out).2.2))
    (case s4 => exact (Kd.R_reads' HO897.out).2.1)
    rintro e w385 ⟨rfl, hb⟩
    refine ⟨_, rfl, ?_⟩
    have n0_ := Aq.mk (Kd.R_below (tR HO_867001.out) hb)
    have n1_ := Aq.mk (Kd.R_below (tR HO_872001.out) hb)
    have n2_ := Aq.mk (Kd.R_below (tR HO_877001.out) hb)
    have n3_ := Aq.mk (Kd.R_below (tR HO_882001.out) hb)
    have n4_ := Aq.mk (Kd.R_below (tR HO_888001.out) hb)
    have n5_ := Aq.mk (Kd.R_below (tR HO892.out) hb)
    have n6_ := Aq.mk (Kd.R_below (tR HO897.out) hb)
    have n7_ := Aq.mk (tQ BK843.out hb)
    have n8_ := Aq.mk (tQ BK844.out hb)
    have n9_ := Aq.mk (tQ BK845.out hb)
    have n10_ := Aq.mk (tQ BK866.out hb)
    have n11_ := Aq.mk (tQ BK871.out hb)
    have n12_ := Aq.mk (tQ BK876.out hb)
    have n13_ := Aq.mk (tQ BK881.out hb)
    have n14_ := Aq.mk (tQ BK887.out hb)
    have n15_ := Aq.mk (bQT tB hb)
    clear HO_867001
    clear HO_872001
    clear HO_877001
    clear HO_882001
    clear HO_888001
    clear HO892
    clear HO897
    clear BK843
    clear BK844
    clear BK845
    clear BK866
    clear BK871
    clear BK876
    clear BK881
    clear BK887
    clear HB
    have HO_867001 := n0_
    have HO_872001 := n1_
    have HO_877001 := n2_
    have HO_882001 := n3_
    have HO_888001 := n4_
    have HO892 := n5_
    have HO897 := n6_
    have BK843 := n7_
    have BK844 := n8_
    have BK845 := n9_
    have BK866 := n10_
    have BK871 := n11_
    have BK876 := n12_
    have BK881 := n13_
    have BK887 := n14_
    have HB := n15_
    clear n0_ n1_ n2_ n3_ n4_ n5_ n6_ n7_ n8_ n9_ n10_ n11_ n12_ n13_ n14_ n15_
    (try clear hb)
    (try clear hb2)
    (try clear hk)
    (try clear hi)
    refine hK.out _ _ ⟨(kQC BK876.out 0).trans rfl, (kQC BK876.out 1).trans rfl, (kQC BK844.out 0).trans rfl, (kQC BK844.out 1).trans rfl⟩ (fun hHeld => ?_)
    clear hK K
    refine tN 75 ?_
    refine tP0k 4 76 (bm 5 31) ?_
    refine done_ (by kernel_rfl) ?_
    try go_wp2
    go_ret
    exact ⟨tE, tB⟩
   subst c159
   rw [if_pos rfl] at H
   obtain ⟨⟨t899, t900⟩, A160, H⟩ := qBd H
   (try dsimp only at H)
   obtain ⟨t903, A161, H⟩ := qBd H
   by_cases c162 : t903 = true
   rotate_left
   ·rename_i zf_0_0 zf_0_1 zf_0_2 zf_0_3 zf_0_4 zf_0_5 zf_0_6 zf_0_7 zf_0_8 zf_0_9 zf_0_10 zf_0_11 zf_0_12 zf_0_13 zf_0_14 zf_0_15
    clear hG1_
    revert k a0_0 A0_1 c0_1 l0_1 a1_0 A1_1 c1_1 l1_1 a2_0 A2_1 c2_1 l2_1 r w hu55 hu27 HR0_1 HC0_1 HR1_1 HC1_1 HR2_1 HC2_1 za_2_0 t846 A4 za_2_1 c5b0 t847 A13 za_2_2 c14b0 t848 A25 za_2_3 c26b0 t849 t850 A39 za_2_4 t853 t854 A40 za_2_5 t857 t858 A41 za_2_6 t861 t862 t865 A42 za_2_7 t867 t868 A43 za_2_8 t872 t873 A44 za_2_9 t877 t878 A45 zf_0_0 t882 t883 t886 A46 za_2_10 gb843 w48 GW843 GE843 gb844 w49 GW844 GE844 NB843_844 NB844_843 gb845 w50 GW845 GE845 NB843_845 NB845_843 NB844_845 NB845_844 hnb51 hnc51 hnb52 hnc52 hcz53_0 hcz53_1 hfz53_0 hfz53_1 w54 hnb55 hnc55 hcz56_0 hcz56_1 hfz56_0 hfz56_1 w57 hcz58_0 hcz58_1 hfz58_0 hfz58_1 w59 HT_ HW_ w60 za_2_11 v851 v855 v859 gb866 w69 hS_ GW866 GE866 NB843_866 NB866_843 NB844_866 NB866_844 NB845_866 NB866_845 za_2_12 Ao71 co71 hs70 hfs70 hns70_0 hns70_1 hns70_2 hms70_0 hms70_1 hms70_2 hs72 hfs72 hns72_0 hns72_1 hns72_2 hms72_0 hms72_1 hms72_2 hHeld hnb73 hnc73 w75 gb871 w76 GW871 GE871 NB843_871 NB871_843 NB844_871 NB871_844 NB845_871 NB871_845 NB866_871 NB871_866 hnb77 hnc77 hnb78 hnc78 hnb79 hnc79 hnb80 hnc80 Ao82 co82 hnb83 hnc83 w85 gb876 w86 GW876 GE876 NB843_876 NB876_843 NB844_876 NB876_844 NB845_876 NB876_845 NB866_876 NB876_866 NB871_876 NB876_871 hnb87 hnc87 hnb88 hnc88 hnb89 hnc89 hnb90 hnc90 hnb91 hnc91 Ao93 co93 hnb94 hnc94 w96 gb881 w97 GW881 GE881 NB843_881 NB881_843 NB844_881 NB881_844 NB845_881 NB881_845 NB866_881 NB881_866 NB871_881 NB881_871 NB876_881 NB881_876 hnb98 hnc98 hnb99 hnc99 hnb100 hnc100 hnb101 hnc101 hnb102 hnc102 hnb103 hnc103 Ao105 co105 w108 gb887 w109 zf_0_1 zf_0_2 zf_0_3 zf_0_4 zf_0_5 zf_0_6 zf_0_7 zf_0_8 zf_0_9 GW887 GE887 NB843_887 NB887_843 NB844_887 NB887_844 NB845_887 NB887_845 NB866_887 NB887_866 NB871_887 NB887_871 NB876_887 NB887_876 NB881_887 NB887_881 hnb110 hnc110 hnb111 hnc111 hnb112 hnc112 hnb113 hnc113 hnb114 hnc114 hnb115 hnc115 hnb116 hnc116 Ao118 co118 HO852 HO856 HO860 HO864 HO870 HO875 HO880 HO885 za_2_13 za_2_14 za_2_15 za_2_16 wc u20 u21 u22 u23 u24 u25 u26 u27 u28 u29 u30 u31 u32 u33 u34 u35 u36 u37 u38 u39 u40 u41 u42 u43 u44 u45 u46 u47 u48 u49 u50 u51 u52 u53 u54 u55 u56 u57 u58 u59 u60 u61 u62 u63 u64 u65 u67 u68 u69 u70 u71 u72 u73 u74 u75 u76 u77 u78 u79 u80 u81 u82 u83 u84 u85 u86 u87 u88 u89 u90 u91 u92 u93 u94 u95 u96 u97 u98 u99 u100 u101 u102 u103 u104 u105 u106 u107 u108 u109 u110 u111 u112 u113 u114 u115 u116 u117 u118 u119 u120 u121 u122 u123 u124 u125 u126 u127 u128 u129 u130 u131 u132 u133 u134 u135 u136 u137 u138 u139 u140 u141 HO_867001 HO_872001 HO_877001 HO_882001 HO_888001 BK843 BK844 BK845 BK866 BK871 BK876 BK881 BK887 HB kj46 HJ46 zf_0_10 t889 t890 A154 zf_0_11 A155 zf_0_12 t894 t895 A157 zf_0_13 A158 zf_0_14 t899 t900 A160 zf_0_15 t903 A161 H c162
    exact hG0_.out
   subst c162
   rw [if_pos rfl] at H
   obtain ⟨⟨t904, t905⟩, A163, H⟩ := qBd H
   (try dsimp only at H)
   obtain ⟨⟨t906, t907⟩, A164, H⟩ := qBd H
   (try dsimp only at H)
   obtain ⟨⟨t908, t909⟩, A165, H⟩ := qBd H
   (try dsimp only at H)
   have HC166 := Aq.mk H
   clear H
   try go_wp2
   have n0_ := Aq.mk (Kd.RqD HO_867001.out)
   have n1_ := Aq.mk (Kd.RqD HO_872001.out)
   have n2_ := Aq.mk (Kd.RqD HO_877001.out)
   have n3_ := Aq.mk (Kd.RqD HO_882001.out)
   have n4_ := Aq.mk (Kd.RqD HO_888001.out)
   have n5_ := Aq.mk (kQD BK843.out)
   have n6_ := Aq.mk (kQD BK844.out)
   have n7_ := Aq.mk (kQD BK845.out)
   have n8_ := Aq.mk (kQD BK866.out)
   have n9_ := Aq.mk (kQD BK871.out)
   have n10_ := Aq.mk (kQD BK876.out)
   have n11_ := Aq.mk (kQD BK881.out)
   have n12_ := Aq.mk (kQD BK887.out)
   have n13_ := Aq.mk (bQ1 HB.out)
   clear HO_867001
   clear HO_872001
   clear HO_877001
   clear HO_882001
   clear HO_888001
   clear BK843
   clear BK844
   clear BK845
   clear BK866
   clear BK871
   clear BK876
   clear BK881
   clear BK887
   clear HB
   have HO_867001 := n0_
   have HO_872001 := n1_
   have HO_877001 := n2_
   have HO_882001 := n3_
   have HO_888001 := n4_
   have BK843 := n5_
   have BK844 := n6_
   have BK845 := n7_
   have BK866 := n8_
   have BK871 := n9_
   have BK876 := n10_
   have BK881 := n11_
   have BK887 := n12_
   have HB := n13_
   clear n0_ n1_ n2_ n3_ n4_ n5_ n6_ n7_ n8_ n9_ n10_ n11_ n12_ n13_
   refine start_ (n := 5) (S := fun w' => w'.cell? ⟨gb871, 0, none⟩ = some (.int .i64 t867) ∧ w'.cell? ⟨gb871, 1, none⟩ = some (.slice Ao82 t868.length co82) ∧ w'.cell? ⟨gb843, 0, none⟩ = some (.int .i64 a0_0) ∧ w'.cell? ⟨gb843, 1, none⟩ = some (.slice A0_1 l0_1.length c0_1)) (ds := []) #[false, false, false, false, false] (by kernel_rfl) rfl rfl ⟨(kQC BK871.out 0).trans rfl, (kQC BK871.out 1).trans rfl, (kQC BK843.out 0).trans rfl, (kQC BK843.out 1).trans rfl⟩ (fun hHeld => ?_)
   generalize wc.drew = w167 at HO_867001 HO_872001 HO_877001 HO_882001 HO_888001 BK843 BK844 BK845 BK866 BK871 BK876 BK881 BK887 HB hHeld ⊢
   refine tT4k 0 67 (bm 5 1) ?_
   refine tT4k 1 68 (bm 5 3) ?_
   refine one_ (i := 2) (N := some 69) (bm 5 7) rfl rfl (by kernel_rfl) (by decide) (fun K hK => ?_)
   refine goes_ Try.func33 (by kernel_rfl) rfl #[.agg #[.int .i64 a0_0, .slice A0_1 l0_1.length c0_1]] (by rfl) rfl rfl tL ?_
   with_reducible refine (laws_toMatrix.calls kj46 a0_0 _ _ l0_1 t889 t890 _ ?s1 ?s2 A154.out).mono ?_
   (case s1 => exact tC ((Kd.C_below HR0_1.out HB.out)))
   (case s2 => exact HC0_1.out)
   rintro e w168 ⟨v891, rfl, ho0, hb⟩
   refine ⟨_, rfl, ?_⟩
   have n0_ := Aq.mk (Kd.R_elder' (tR HO_867001.out) (Kd.R_base ho0) hb)
   have n1_ := Aq.mk (Kd.R_elder' (tR HO_872001.out) (Kd.R_base ho0) hb)
   have n2_ := Aq.mk (Kd.R_elder' (tR HO_877001.out) (Kd.R_base ho0) hb)
   have n3_ := Aq.mk (Kd.R_elder' (tR HO_882001.out) (Kd.R_base ho0) hb)
   have n4_ := Aq.mk (Kd.R_elder' (tR HO_888001.out) (Kd.R_base ho0) hb)
   have n5_ := Aq.mk (Kd.R_lower (Kd.R_new' (Kd.R_new' (Kd.R_new' (Kd.R_new' (Kd.R_new' ho0 (Kd.R_lt (tR HO_867001.out))) (Kd.R_lt (tR HO_872001.out))) (Kd.R_lt (tR HO_877001.out))) (Kd.R_lt (tR HO_882001.out))) (Kd.R_lt (tR HO_888001.out))) (bQZ tB))
   have n6_ := Aq.mk (tQ BK843.out hb)
   have n7_ := Aq.mk (tQ BK844.out hb)
   have n8_ := Aq.mk (tQ BK845.out hb)
   have n9_ := Aq.mk (tQ BK866.out hb)
   have n10_ := Aq.mk (tQ BK871.out hb)
   have n11_ := Aq.mk (tQ BK876.out hb)
   have n12_ := Aq.mk (tQ BK881.out hb)
   have n13_ := Aq.mk (tQ BK887.out hb)
   have n14_ := Aq.mk (bQT tB hb)
   clear HO_867001
   clear HO_872001
   clear HO_877001
   clear HO_882001
   clear HO_888001
   clear BK843
   clear BK844
   clear BK845
   clear BK866
   clear BK871
   clear BK876
   clear BK881
   clear BK887
   clear HB
   have HO_867001 := n0_
   have HO_872001 := n1_
   have HO_877001 := n2_
   have HO_882001 := n3_
   have HO_888001 := n4_
   have HO892 := n5_
   have BK843 := n6_
   have BK844 := n7_
   have BK845 := n8_
   have BK866 := n9_
   have BK871 := n10_
   have BK876 := n11_
   have BK881 := n12_
   have BK887 := n13_
   have HB := n14_
   clear n0_ n1_ n2_ n3_ n4_ n5_ n6_ n7_ n8_ n9_ n10_ n11_ n12_ n13_ n14_
   (try clear hb)
   (try clear hb2)
   (try clear hk)
   (try clear hi)
   (try clear ho0)
   obtain ⟨Ao169, co169, eo169⟩ := Kd.R_slice HO892.out
   (first | subst eo169 | (injection eo169 with f1_ f2_ f3_; have f4_ := f1_.symm; have f5_ := f3_.symm; clear f1_ f2_ f3_; subst f4_; subst f5_))
   refine hK.out _ _ ⟨(kQC BK871.out 0).trans rfl, (kQC BK871.out 1).trans rfl, (kQC BK843.out 0).trans rfl, (kQC BK843.out 1).trans rfl⟩ (fun hHeld => ?_)
   clear hK K
   refine tN 69 ?_
   refine one_ (i := 3) (N := some 70) (bm 5 15) rfl rfl (by kernel_rfl) (by decide) (fun K hK => ?_)
   refine goes_ Try.func35 (by kernel_rfl) rfl #[.agg #[.int .i64 t867, .slice Ao82 t868.length co82], .agg #[.int .i64 t889, .slice Ao169 t890.length co169]] (by rfl) rfl rfl tL ?_
   with_reducible refine (laws_eqMatrix.calls kj46 t867 _ _ t868 t889 _ _ t890 true _ ?s1 ?s2 ?s3 ?s4 A155.out).mono ?_
   (case s1 => exact tC ((Kd.R_reads' HO_872001.out).2.2))
   (case s2 => exact (Kd.R_reads' HO_872001.out).2.1)
   (case s3 => exact tC ((Kd.R_reads' HO892.out).2.2))
   (case s4 => exact (Kd.R_reads' HO892.out).2.1)
   rintro e w170 ⟨rfl, hb⟩
   refine ⟨_, rfl, ?_⟩
   have n0_ := Aq.mk (Kd.R_below (tR HO_867001.out) hb)
   have n1_ := Aq.mk (Kd.R_below (tR HO_872001.out) hb)
   have n2_ := Aq.mk (Kd.R_below (tR HO_877001.out) hb)
   have n3_ := Aq.mk (Kd.R_below (tR HO_882001.out) hb)
   have n4_ := Aq.mk (Kd.R_below (tR HO_888001.out) hb)
   have n5_ := Aq.mk (Kd.R_below (tR HO892.out) hb)
   have n6_ := Aq.mk (tQ BK843.out hb)
   have n7_ := Aq.mk (tQ BK844.out hb)
   have n8_ := Aq.mk (tQ BK845.out hb)
   have n9_ := Aq.mk (tQ BK866.out hb)
   have n10_ := Aq.mk (tQ BK871.out hb)
   have n11_ := Aq.mk (tQ BK876.out hb)
   have n12_ := Aq.mk (tQ BK881.out hb)
   have n13_ := Aq.mk (tQ BK887.out hb)
   have n14_ := Aq.mk (bQT tB hb)
   clear HO_867001
   clear HO_872001
   clear HO_877001
   clear HO_882001
   clear HO_888001
   clear HO892
   clear BK843
   clear BK844
   clear BK845
   clear BK866
   clear BK871
   clear BK876
   clear BK881
   clear BK887
   clear HB
   have HO_867001 := n0_
   have HO_872001 := n1_
   have HO_877001 := n2_
   have HO_882001 := n3_
   have HO_888001 := n4_
   have HO892 := n5_
   have BK843 := n6_
   have BK844 := n7_
   have BK845 := n8_
   have BK866 := n9_
   have BK871 := n10_
   have BK876 := n11_
   have BK881 := n12_
   have BK887 := n13_
   have HB := n14_
   clear n0_ n1_ n2_ n3_ n4_ n5_ n6_ n7_ n8_ n9_ n10_ n11_ n12_ n13_ n14_
   (try clear hb)
   (try clear hb2)
   (try clear hk)
   (try clear hi)
   refine hK.out _ _ ⟨(kQC BK871.out 0).trans rfl, (kQC BK871.out 1).trans rfl, (kQC BK843.out 0).trans rfl, (kQC BK843.out 1).trans rfl⟩ (fun hHeld => ?_)
   clear hK K
   refine tN 70 ?_
   refine tP0k 4 71 (bm 5 31) ?_
   refine done_ (by kernel_rfl) ?_
   try go_wp2
   have n0_ := Aq.mk (Kd.RqD HO_867001.out)
   have n1_ := Aq.mk (Kd.RqD HO_872001.out)
   have n2_ := Aq.mk (Kd.RqD HO_877001.out)
   have n3_ := Aq.mk (Kd.RqD HO_882001.out)
   have n4_ := Aq.mk (Kd.RqD HO_888001.out)
   have n5_ := Aq.mk (Kd.RqD HO892.out)
   have n6_ := Aq.mk (kQD BK843.out)
   have n7_ := Aq.mk (kQD BK844.out)
   have n8_ := Aq.mk (kQD BK845.out)
   have n9_ := Aq.mk (kQD BK866.out)
   have n10_ := Aq.mk (kQD BK871.out)
   have n11_ := Aq.mk (kQD BK876.out)
   have n12_ := Aq.mk (kQD BK881.out)
   have n13_ := Aq.mk (kQD BK887.out)
   have n14_ := Aq.mk (bQ1 HB.out)
   clear HO_867001
   clear HO_872001
   clear HO_877001
   clear HO_882001
   clear HO_888001
   clear HO892
   clear BK843
   clear BK844
   clear BK845
   clear BK866
   clear BK871
   clear BK876
   clear BK881
   clear BK887
   clear HB
   have HO_867001 := n0_
   have HO_872001 := n1_
   have HO_877001 := n2_
   have HO_882001 := n3_
   have HO_888001 := n4_
   have HO892 := n5_
   have BK843 := n6_
   have BK844 := n7_
   have BK845 := n8_
   have BK866 := n9_
   have BK871 := n10_
   have BK876 := n11_
   have BK881 := n12_
   have BK887 := n13_
   have HB := n14_
   clear n0_ n1_ n2_ n3_ n4_ n5_ n6_ n7_ n8_ n9_ n10_ n11_ n12_ n13_ n14_
   refine start_ (n := 5) (S := fun w' => w'.cell? ⟨gb876, 0, none⟩ = some (.int .i64 t872) ∧ w'.cell? ⟨gb876, 1, none⟩ = some (.slice Ao93 t873.length co93) ∧ w'.cell? ⟨gb844, 0, none⟩ = some (.int .i64 a1_0) ∧ w'.cell? ⟨gb844, 1, none⟩ = some (.slice A1_1 l1_1.length c1_1)) (ds := []) #[false, false, false, false, false] (by kernel_rfl) rfl rfl ⟨(kQC BK876.out 0).trans rfl, (kQC BK876.out 1).trans rfl, (kQC BK844.out 0).trans rfl, (kQC BK844.out 1).trans rfl⟩ (fun hHeld => ?_)
   generalize w170.drew = w171 at HO_867001 HO_872001 HO_877001 HO_882001 HO_888001 HO892 BK843 BK844 BK845 BK866 BK871 BK876 BK881 BK887 HB hHeld ⊢
   refine tT4k 0 72 (bm 5 1) ?_
   refine tT4k 1 73 (bm 5 3) ?_
   refine one_ (i := 2) (N := some 74) (bm 5 7) rfl rfl (by kernel_rfl) (by decide) (fun K hK => ?_)
   refine goes_ Try.func33 (by kernel_rfl) rfl #[.agg #[.int .i64 a1_0, .slice A1_1 l1_1.length c1_1]] (by rfl) rfl rfl tL ?_
   with_reducible refine (laws_toMatrix.calls kj46 a1_0 _ _ l1_1 t894 t895 _ ?s1 ?s2 A157.out).mono ?_
   (case s1 => exact tC ((Kd.C_below HR1_1.out HB.out)))
   (case s2 => exact HC1_1.out)
   rintro e w172 ⟨v896, rfl, ho0, hb⟩
   refine ⟨_, rfl, ?_⟩
   have n0_ := Aq.mk (Kd.R_elder' (tR HO_867001.out) (Kd.R_base ho0) hb)
   have n1_ := Aq.mk (Kd.R_elder' (tR HO_872001.out) (Kd.R_base ho0) hb)
   have n2_ := Aq.mk (Kd.R_elder' (tR HO_877001.out) (Kd.R_base ho0) hb)
   have n3_ := Aq.mk (Kd.R_elder' (tR HO_882001.out) (Kd.R_base ho0) hb)
   have n4_ := Aq.mk (Kd.R_elder' (tR HO_888001.out) (Kd.R_base ho0) hb)
   have n5_ := Aq.mk (Kd.R_elder' (tR HO892.out) (Kd.R_base ho0) hb)
   have n6_ := Aq.mk (Kd.R_lower (Kd.R_new' (Kd.R_new' (Kd.R_new' (Kd.R_new' (Kd.R_new' (Kd.R_new' ho0 (Kd.R_lt (tR HO_867001.out))) (Kd.R_lt (tR HO_872001.out))) (Kd.R_lt (tR HO_877001.out))) (Kd.R_lt (tR HO_882001.out))) (Kd.R_lt (tR HO_888001.out))) (Kd.R_lt (tR HO892.out))) (bQZ tB))
   have n7_ := Aq.mk (tQ BK843.out hb)
   have n8_ := Aq.mk (tQ BK844.out hb)
   have n9_ := Aq.mk (tQ BK845.out hb)
   have n10_ := Aq.mk (tQ BK866.out hb)
   have n11_ := Aq.mk (tQ BK871.out hb)
   have n12_ := Aq.mk (tQ BK876.out hb)
   have n13_ := Aq.mk (tQ BK881.out hb)
   have n14_ := Aq.mk (tQ BK887.out hb)
   have n15_ := Aq.mk (bQT tB hb)
   clear HO_867001
   clear HO_872001
   clear HO_877001
   clear HO_882001
   clear HO_888001
   clear HO892
   clear BK843
   clear BK844
   clear BK845
   clear BK866
   clear BK871
   clear BK876
   clear BK881
   clear BK887
   clear HB
   have HO_867001 := n0_
   have HO_872001 := n1_
   have HO_877001 := n2_
   have HO_882001 := n3_
   have HO_888001 := n4_
   have HO892 := n5_
   have HO897 := n6_
   have BK843 := n7_
   have BK844 := n8_
   have BK845 := n9_
   have BK866 := n10_
   have BK871 := n11_
   have BK876 := n12_
   have BK881 := n13_
   have BK887 := n14_
   have HB := n15_
   clear n0_ n1_ n2_ n3_ n4_ n5_ n6_ n7_ n8_ n9_ n10_ n11_ n12_ n13_ n14_ n15_
   (try clear hb)
   (try clear hb2)
   (try clear hk)
   (try clear hi)
   (try clear ho0)
   obtain ⟨Ao173, co173, eo173⟩ := Kd.R_slice HO897.out
   (first | subst eo173 | (injection eo173 with f1_ f2_ f3_; have f4_ := f1_.symm; have f5_ := f3_.symm; clear f1_ f2_ f3_; subst f4_; subst f5_))
   refine hK.out _ _ ⟨(kQC BK876.out 0).trans rfl, (kQC BK876.out 1).trans rfl, (kQC BK844.out 0).trans rfl, (kQC BK844.out 1).trans rfl⟩ (fun hHeld => ?_)
   clear hK K
   refine tN 74 ?_
   refine one_ (i := 3) (N := some 75) (bm 5 15) rfl rfl (by kernel_rfl) (by decide) (fun K hK => ?_)
   refine goes_ Try.func35 (by kernel_rfl) rfl #[.agg #[.int .i64 t872, .slice Ao93 t873.length co93], .agg #[.int .i64 t894, .slice Ao173 t895.length co173]] (by rfl) rfl rfl tL ?_
   with_reducible refine (laws_eqMatrix.calls kj46 t872 _ _ t873 t894 _ _ t895 true _ ?s1 ?s2 ?s3 ?s4 A158.out).mono ?_
   (case s1 => exact tC ((Kd.R_reads' HO_877001.out).2.2))
   (case s2 => exact (Kd.R_reads' HO_877001.out).2.1)
   (case s3 => exact tC ((Kd.R_reads' HO897.out).2.2))
   (case s4 => exact (Kd.R_reads' HO897.out).2.1)
   rintro e w174 ⟨rfl, hb⟩
   refine ⟨_, rfl, ?_⟩
   have n0_ := Aq.mk (Kd.R_below (tR HO_867001.out) hb)
   have n1_ := Aq.mk (Kd.R_below (tR HO_872001.out) hb)
   have n2_ := Aq.mk (Kd.R_below (tR HO_877001.out) hb)
   have n3_ := Aq.mk (Kd.R_below (tR HO_882001.out) hb)
   have n4_ := Aq.mk (Kd.R_below (tR HO_888001.out) hb)
   have n5_ := Aq.mk (Kd.R_below (tR HO892.out) hb)
   have n6_ := Aq.mk (Kd.R_below (tR HO897.out) hb)
   have n7_ := Aq.mk (tQ BK843.out hb)
   have n8_ := Aq.mk (tQ BK844.out hb)
   have n9_ := Aq.mk (tQ BK845.out hb)
   have n10_ := Aq.mk (tQ BK866.out hb)
   have n11_ := Aq.mk (tQ BK871.out hb)
   have n12_ := Aq.mk (tQ BK876.out hb)
   have n13_ := Aq.mk (tQ BK881.out hb)
   have n14_ := Aq.mk (tQ BK887.out hb)
   have n15_ := Aq.mk (bQT tB hb)
   clear HO_867001
   clear HO_872001
   clear HO_877001
   clear HO_882001
   clear HO_888001
   clear HO892
   clear HO897
   clear BK843
   clear BK844
   clear BK845
   clear BK866
   clear BK871
   clear BK876
   clear BK881
   clear BK887
   clear HB
   have HO_867001 := n0_
   have HO_872001 := n1_
   have HO_877001 := n2_
   have HO_882001 := n3_
   have HO_888001 := n4_
   have HO892 := n5_
   have HO897 := n6_
   have BK843 := n7_
   have BK844 := n8_
   have BK845 := n9_
   have BK866 := n10_
   have BK871 := n11_
   have BK876 := n12_
   have BK881 := n13_
   have BK887 := n14_
   have HB := n15_
   clear n0_ n1_ n2_ n3_ n4_ n5_ n6_ n7_ n8_ n9_ n10_ n11_ n12_ n13_ n14_ n15_
   (try clear hb)
   (try clear hb2)
   (try clear hk)
   (try clear hi)
   refine hK.out _ _ ⟨(kQC BK876.out 0).trans rfl, (kQC BK876.out 1).trans rfl, (kQC BK844.out 0).trans rfl, (kQC BK844.out 1).trans rfl⟩ (fun hHeld => ?_)
   clear hK K
   refine tN 75 ?_
   refine tP0k 4 76 (bm 5 31) ?_
   refine done_ (by kernel_rfl) ?_
   try go_wp2
   have n0_ := Aq.mk (Kd.RqD HO_867001.out)
   have n1_ := Aq.mk (Kd.RqD HO_872001.out)
   have n2_ := Aq.mk (Kd.RqD HO_877001.out)
   have n3_ := Aq.mk (Kd.RqD HO_882001.out)
   have n4_ := Aq.mk (Kd.RqD HO_888001.out)
   have n5_ := Aq.mk (Kd.RqD HO892.out)
   have n6_ := Aq.mk (Kd.RqD HO897.out)
   have n7_ := Aq.mk (kQD BK843.out)
   have n8_ := Aq.mk (kQD BK844.out)
   have n9_ := Aq.mk (kQD BK845.out)
   have n10_ := Aq.mk (kQD BK866.out)
   have n11_ := Aq.mk (kQD BK871.out)
   have n12_ := Aq.mk (kQD BK876.out)
   have n13_ := Aq.mk (kQD BK881.out)
   have n14_ := Aq.mk (kQD BK887.out)
   have n15_ := Aq.mk (bQ1 HB.out)
   clear HO_867001
   clear HO_872001
   clear HO_877001
   clear HO_882001
   clear HO_888001
   clear HO892
   clear HO897
   clear BK843
   clear BK844
   clear BK845
   clear BK866
   clear BK871
   clear BK876
   clear BK881
   clear BK887
   clear HB
   have HO_867001 := n0_
   have HO_872001 := n1_
   have HO_877001 := n2_
   have HO_882001 := n3_
   have HO_888001 := n4_
   have HO892 := n5_
   have HO897 := n6_
   have BK843 := n7_
   have BK844 := n8_
   have BK845 := n9_
   have BK866 := n10_
   have BK871 := n11_
   have BK876 := n12_
   have BK881 := n13_
   have BK887 := n14_
   have HB := n15_
   clear n0_ n1_ n2_ n3_ n4_ n5_ n6_ n7_ n8_ n9_ n10_ n11_ n12_ n13_ n14_ n15_
   refine start_ (n := 5) (S := fun w' => w'.cell? ⟨gb881, 0, none⟩ = some (.int .i64 t877) ∧ w'.cell? ⟨gb881, 1, none⟩ = some (.slice Ao105 t878.length co105) ∧ w'.cell? ⟨gb845, 0, none⟩ = some (.int .i64 a2_0) ∧ w'.cell? ⟨gb845, 1, none⟩ = some (.slice A2_1 l2_1.length c2_1)) (ds := []) #[false, false, false, false, false] (by kernel_rfl) rfl rfl ⟨(kQC BK881.out 0).trans rfl, (kQC BK881.out 1).trans rfl, (kQC BK845.out 0).trans rfl, (kQC BK845.out 1).trans rfl⟩ (fun hHeld => ?_)
   generalize w174.drew = w175 at HO_867001 HO_872001 HO_877001 HO_882001 HO_888001 HO892 HO897 BK843 BK844 BK845 BK866 BK871 BK876 BK881 BK887 HB hHeld ⊢
   refine tT4k 0 77 (bm 5 1) ?_
   refine tT4k 1 78 (bm 5 3) ?_
   refine one_ (i := 2) (N := some 79) (bm 5 7) rfl rfl (by kernel_rfl) (by decide) (fun K hK => ?_)
   refine goes_ Try.func33 (by kernel_rfl) rfl #[.agg #[.int .i64 a2_0, .slice A2_1 l2_1.length c2_1]] (by rfl) rfl rfl tL ?_
   with_reducible refine (laws_toMatrix.calls kj46 a2_0 _ _ l2_1 t899 t900 _ ?s1 ?s2 A160.out).mono ?_
   (case s1 => exact tC ((Kd.C_below HR2_1.out HB.out)))
   (case s2 => exact HC2_1.out)
   rintro e w176 ⟨v901, rfl, ho0, hb⟩
   refine ⟨_, rfl, ?_⟩
   have n0_ := Aq.mk (Kd.R_elder' (tR HO_867001.out) (Kd.R_base ho0) hb)
   have n1_ := Aq.mk (Kd.R_elder' (tR HO_872001.out) (Kd.R_base ho0) hb)
   have n2_ := Aq.mk (Kd.R_elder' (tR HO_877001.out) (Kd.R_base ho0) hb)
   have n3_ := Aq.mk (Kd.R_elder' (tR HO_882001.out) (Kd.R_base ho0) hb)
   have n4_ := Aq.mk (Kd.R_elder' (tR HO_888001.out) (Kd.R_base ho0) hb)
   have n5_ := Aq.mk (Kd.R_elder' (tR HO892.out) (Kd.R_base ho0) hb)
   have n6_ := Aq.mk (Kd.R_elder' (tR HO897.out) (Kd.R_base ho0) hb)
   have n7_ := Aq.mk (Kd.R_lower (Kd.R_new' (Kd.R_new' (Kd.R_new' (Kd.R_new' (Kd.R_new' (Kd.R_new' (Kd.R_new' ho0 (Kd.R_lt (tR HO_867001.out))) (Kd.R_lt (tR HO_872001.out))) (Kd.R_lt (tR HO_877001.out))) (Kd.R_lt (tR HO_882001.out))) (Kd.R_lt (tR HO_888001.out))) (Kd.R_lt (tR HO892.out))) (Kd.R_lt (tR HO897.out))) (bQZ tB))
   have n8_ := Aq.mk (tQ BK843.out hb)
   have n9_ := Aq.mk (tQ BK844.out hb)
   have n10_ := Aq.mk (tQ BK845.out hb)
   have n11_ := Aq.mk (tQ BK866.out hb)
   have n12_ := Aq.mk (tQ BK871.out hb)
   have n13_ := Aq.mk (tQ BK876.out hb)
   have n14_ := Aq.mk (tQ BK881.out hb)
   have n15_ := Aq.mk (tQ BK887.out hb)
   have n16_ := Aq.mk (bQT tB hb)
   clear HO_867001
   clear HO_872001
   clear HO_877001
   clear HO_882001
   clear HO_888001
   clear HO892
   clear HO897
   clear BK843
   clear BK844
   clear BK845
   clear BK866
   clear BK871
   clear BK876
   clear BK881
   clear BK887
   clear HB
   have HO_867001 := n0_
   have HO_872001 := n1_
   have HO_877001 := n2_
   have HO_882001 := n3_
   have HO_888001 := n4_
   have HO892 := n5_
   have HO897 := n6_
   have HO902 := n7_
   have BK843 := n8_
   have BK844 := n9_
   have BK845 := n10_
   have BK866 := n11_
   have BK871 := n12_
   have BK876 := n13_
   have BK881 := n14_
   have BK887 := n15_
   have HB := n16_
   clear n0_ n1_ n2_ n3_ n4_ n5_ n6_ n7_ n8_ n9_ n10_ n11_ n12_ n13_ n14_ n15_ n16_
   (try clear hb)
   (try clear hb2)
   (try clear hk)
   (try clear hi)
   (try clear ho0)
   obtain ⟨Ao177, co177, eo177⟩ := Kd.R_slice HO902.out
   (first | subst eo177 | (injection eo177 with f1_ f2_ f3_; have f4_ := f1_.symm; have f5_ := f3_.symm; clear f1_ f2_ f3_; subst f4_; subst f5_))
   refine hK.out _ _ ⟨(kQC BK881.out 0).trans rfl, (kQC BK881.out 1).trans rfl, (kQC BK845.out 0).trans rfl, (kQC BK845.out 1).trans rfl⟩ (fun hHeld => ?_)
   clear hK K
   refine tN 79 ?_
   refine one_ (i := 3) (N := some 80) (bm 5 15) rfl rfl (by kernel_rfl) (by decide) (fun K hK => ?_)
   refine goes_ Try.func35 (by kernel_rfl) rfl #[.agg #[.int .i64 t877, .slice Ao105 t878.length co105], .agg #[.int .i64 t899, .slice Ao177 t900.length co177]] (by rfl) rfl rfl tL ?_
   with_reducible refine (laws_eqMatrix.calls kj46 t877 _ _ t878 t899 _ _ t900 true _ ?s1 ?s2 ?s3 ?s4 A161.out).mono ?_
   (case s1 => exact tC ((Kd.R_reads' HO_882001.out).2.2))
   (case s2 => exact (Kd.R_reads' HO_882001.out).2.1)
   (case s3 => exact tC ((Kd.R_reads' HO902.out).2.2))
   (case s4 => exact (Kd.R_reads' HO902.out).2.1)
   rintro e w178 ⟨rfl, hb⟩
   refine ⟨_, rfl, ?_⟩
   have n0_ := Aq.mk (Kd.R_below (tR HO_867001.out) hb)
   have n1_ := Aq.mk (Kd.R_below (tR HO_872001.out) hb)
   have n2_ := Aq.mk (Kd.R_below (tR HO_877001.out) hb)
   have n3_ := Aq.mk (Kd.R_below (tR HO_882001.out) hb)
   have n4_ := Aq.mk (Kd.R_below (tR HO_888001.out) hb)
   have n5_ := Aq.mk (Kd.R_below (tR HO892.out) hb)
   have n6_ := Aq.mk (Kd.R_below (tR HO897.out) hb)
   have n7_ := Aq.mk (Kd.R_below (tR HO902.out) hb)
   have n8_ := Aq.mk (tQ BK843.out hb)
   have n9_ := Aq.mk (tQ BK844.out hb)
   have n10_ := Aq.mk (tQ BK845.out hb)
   have n11_ := Aq.mk (tQ BK866.out hb)
   have n12_ := Aq.mk (tQ BK871.out hb)
   have n13_ := Aq.mk (tQ BK876.out hb)
   have n14_ := Aq.mk (tQ BK881.out hb)
   have n15_ := Aq.mk (tQ BK887.out hb)
   have n16_ := Aq.mk (bQT tB hb)
   clear HO_867001
   clear HO_872001
   clear HO_877001
   clear HO_882001
   clear HO_888001
   clear HO892
   clear HO897
   clear HO902
   clear BK843
   clear BK844
   clear BK845
   clear BK866
   clear BK871
   clear BK876
   clear BK881
   clear BK887
   clear HB
   have HO_867001 := n0_
   have HO_872001 := n1_
   have HO_877001 := n2_
   have HO_882001 := n3_
   have HO_888001 := n4_
   have HO892 := n5_
   have HO897 := n6_
   have HO902 := n7_
   have BK843 := n8_
   have BK844 := n9_
   have BK845 := n10_
   have BK866 := n11_
   have BK871 := n12_
   have BK876 := n13_
   have BK881 := n14_
   have BK887 := n15_
   have HB := n16_
   clear n0_ n1_ n2_ n3_ n4_ n5_ n6_ n7_ n8_ n9_ n10_ n11_ n12_ n13_ n14_ n15_ n16_
   (try clear hb)
   (try clear hb2)
   (try clear hk)
   (try clear hi)
   refine hK.out _ _ ⟨(kQC BK881.out 0).trans rfl, (kQC BK881.out 1).trans rfl, (kQC BK845.out 0).trans rfl, (kQC BK845.out 1).trans rfl⟩ (fun hHeld => ?_)
   clear hK K
   refine tN 80 ?_
   refine tP0k 4 81 (bm 5 31) ?_
   refine done_ (by kernel_rfl) ?_
   have hnb179 := NB871_843.out
   have hnc179 := NB843_871.out
   have hnb180 := NB871_844.out
   have hnc180 := NB844_871.out
   have hnb181 := NB871_845.out
   have hnc181 := NB845_871.out
   have hnb182 := NB871_866.out
   have hnc182 := NB866_871.out
   have hnb183 := NB871_876.out
   have hnc183 := NB876_871.out
   have hnb184 := NB871_881.out
   have hnc184 := NB881_871.out
   have hnb185 := NB871_887.out
   have hnc185 := NB887_871.out
   have hcz186_0 : w178.cell? ⟨gb871, 0, none⟩ = some (.int .i64 t867) := (kQC BK871.out 0).trans rfl
   have hcz186_1 : w178.cell? ⟨gb871, 1, none⟩ = some (.slice Ao82 t868.length co82) := (kQC BK871.out 1).trans rfl
   have hfz186_0 := kQF BK871.out 0
   have hfz186_1 := kQF BK871.out 1
   go_upto_region 28 with (first | ((with_reducible refine gQc (f := 36) rfl ?_); refine goesL_ (some 84) rfl rfl Try.func36 (by kernel_rfl) rfl #[.agg #[.int .i64 t867, .slice Ao82 t868.length co82], .int .i64 1] rfl tL ?_; (with_reducible refine (laws_markMatrix.calls kj46 t867 (fun k_ => some k_ = (.slice Ao82 t868.length co82 : Value).ownBlock) (.slice Ao82 t868.length co82) t868 1 t904 t905 w _ ?s1 ?s2 A163.out).mono ?_); (case s1 => exact tB); (case s2 => exact Kd.R_tight rfl HO_872001.out); rintro e w187 ⟨rfl, hy0, hb, hkp⟩; refine ⟨_, rfl, ?_⟩; refine qM17 (Kd.R_mono (ok' := fun k_ => some k_ ≠ (.slice Ao82 t868.length co82 : Value).ownBlock ∧ some k_ ≠ (.slice Ao93 t873.length co93 : Value).ownBlock ∧ some k_ ≠ (.slice Ao105 t878.length co105 : Value).ownBlock ∧ some k_ ≠ (.slice Ao118 t883.length co118 : Value).ownBlock ∧ some k_ ≠ (.slice Ao169 t890.length co169 : Value).ownBlock ∧ some k_ ≠ (.slice Ao173 t895.length co173 : Value).ownBlock ∧ some k_ ≠ (.slice Ao177 t900.length co177 : Value).ownBlock) (Kd.R_keptB (HO_867001.out) hkp (fun k_ hk_ hs_ => (hk_.1.1.1.1) hs_)) (fun k_ hk_ => ⟨hk_.1.1.1.1.1, hk_.1.1.1.1.2.1, hk_.1.1.1.1.2.2.1, hk_.1.1.1.1.2.2.2, hk_.1.1.1.2, hk_.1.1.2, hk_.1.2⟩)) (Kd.R_reok rfl hy0 (fun k_ e_ => HO_872001.out.1 k_ e_)) (Kd.R_mono (ok' := fun k_ => some k_ ≠ (.slice Ao71 t862.length co71 : Value).ownBlock ∧ some k_ ≠ (.slice Ao82 t868.length co82 : Value).ownBlock ∧ some k_ ≠ (.slice Ao105 t878.length co105 : Value).ownBlock ∧ some k_ ≠ (.slice Ao118 t883.length co118 : Value).ownBlock ∧ some k_ ≠ (.slice Ao169 t890.length co169 : Value).ownBlock ∧ some k_ ≠ (.slice Ao173 t895.length co173 : Value).ownBlock ∧ some k_ ≠ (.slice Ao177 t900.length co177 : Value).ownBlock) (Kd.R_keptB (HO_877001.out) hkp (fun k_ hk_ hs_ => (hk_.1.1.1.2.1) hs_)) (fun k_ hk_ => ⟨hk_.1.1.1.1.1, hk_.1.1.1.1.2.1, hk_.1.1.1.1.2.2.1, hk_.1.1.1.1.2.2.2, hk_.1.1.1.2, hk_.1.1.2, hk_.1.2⟩)) (Kd.R_mono (ok' := fun k_ => some k_ ≠ (.slice Ao71 t862.length co71 : Value).ownBlock ∧ some k_ ≠ (.slice Ao82 t868.length co82 : Value).ownBlock ∧ some k_ ≠ (.slice Ao93 t873.length co93 : Value).ownBlock ∧ some k_ ≠ (.slice Ao118 t883.length co118 : Value).ownBlock ∧ some k_ ≠ (.slice Ao169 t890.length co169 : Value).ownBlock ∧ some k_ ≠ (.slice Ao173 t895.length co173 : Value).ownBlock ∧ some k_ ≠ (.slice Ao177 t900.length co177 : Value).ownBlock) (Kd.R_keptB (HO_882001.out) hkp (fun k_ hk_ hs_ => (hk_.1.1.1.2.1) hs_)) (fun k_ hk_ => ⟨hk_.1.1.1.1.1, hk_.1.1.1.1.2.1, hk_.1.1.1.1.2.2.1, hk_.1.1.1.1.2.2.2, hk_.1.1.1.2, hk_.1.1.2, hk_.1.2⟩)) (Kd.R_mono (ok' := fun k_ => some k_ ≠ (.slice Ao71 t862.length co71 : Value).ownBlock ∧ some k_ ≠ (.slice Ao82 t868.length co82 : Value).ownBlock ∧ some k_ ≠ (.slice Ao93 t873.length co93 : Value).ownBlock ∧ some k_ ≠ (.slice Ao105 t878.length co105 : Value).ownBlock ∧ some k_ ≠ (.slice Ao169 t890.length co169 : Value).ownBlock ∧ some k_ ≠ (.slice Ao173 t895.length co173 : Value).ownBlock ∧ some k_ ≠ (.slice Ao177 t900.length co177 : Value).ownBlock) (Kd.R_keptB (HO_888001.out) hkp (fun k_ hk_ hs_ => (hk_.1.1.1.2.1) hs_)) (fun k_ hk_ => ⟨hk_.1.1.1.1.1, hk_.1.1.1.1.2.1, hk_.1.1.1.1.2.2.1, hk_.1.1.1.1.2.2.2, hk_.1.1.1.2, hk_.1.1.2, hk_.1.2⟩)) (blk_kept (tG BK843.out) hkp (fun hs_ => (fun e_ => (Kd.R_ne HO_872001.out BK843.out (by decide)) e_) hs_)) (blk_kept (tG BK844.out) hkp (fun hs_ => (fun e_ => (Kd.R_ne HO_872001.out BK844.out (by decide)) e_) hs_)) (blk_kept (tG BK845.out) hkp (fun hs_ => (fun e_ => (Kd.R_ne HO_872001.out BK845.out (by decide)) e_) hs_)) (blk_kept (tG BK866.out) hkp (fun hs_ => (fun e_ => (Kd.R_ne HO_872001.out BK866.out (by decide)) e_) hs_)) (blk_kept (tG BK871.out) hkp (fun hs_ => (fun e_ => (Kd.R_ne HO_872001.out BK871.out (by decide)) e_) hs_)) (blk_kept (tG BK876.out) hkp (fun hs_ => (fun e_ => (Kd.R_ne HO_872001.out BK876.out (by decide)) e_) hs_)) (blk_kept (tG BK881.out) hkp (fun hs_ => (fun e_ => (Kd.R_ne HO_872001.out BK881.out (by decide)) e_) hs_)) (blk_kept (tG BK887.out) hkp (fun hs_ => (fun e_ => (Kd.R_ne HO_872001.out BK887.out (by decide)) e_) hs_)) (Kd.R_mono (ok' := fun k_ => some k_ ≠ (.slice Ao71 t862.length co71 : Value).ownBlock ∧ some k_ ≠ (.slice Ao82 t868.length co82 : Value).ownBlock ∧ some k_ ≠ (.slice Ao93 t873.length co93 : Value).ownBlock ∧ some k_ ≠ (.slice Ao105 t878.length co105 : Value).ownBlock ∧ some k_ ≠ (.slice Ao118 t883.length co118 : Value).ownBlock ∧ some k_ ≠ (.slice Ao173 t895.length co173 : Value).ownBlock ∧ some k_ ≠ (.slice Ao177 t900.length co177 : Value).ownBlock) (Kd.R_keptB (HO892.out) hkp (fun k_ hk_ hs_ => (hk_.1.1.1.1.1.2) hs_)) (fun k_ hk_ => ⟨hk_.1.1.1.1.1.1.1.2, hk_.1.1.1.1.1.1.2, hk_.1.1.1.1.1.2, hk_.1.1.1.1.2, hk_.1.1.1.2, hk_.1.1.2, hk_.1.2⟩)) (Kd.R_mono (ok' := fun k_ => some k_ ≠ (.slice Ao71 t862.length co71 : Value).ownBlock ∧ some k_ ≠ (.slice Ao82 t868.length co82 : Value).ownBlock ∧ some k_ ≠ (.slice Ao93 t873.length co93 : Value).ownBlock ∧ some k_ ≠ (.slice Ao105 t878.length co105 : Value).ownBlock ∧ some k_ ≠ (.slice Ao118 t883.length co118 : Value).ownBlock ∧ some k_ ≠ (.slice Ao169 t890.length co169 : Value).ownBlock ∧ some k_ ≠ (.slice Ao177 t900.length co177 : Value).ownBlock) (Kd.R_keptB (HO897.out) hkp (fun k_ hk_ hs_ => (hk_.1.1.1.1.1.2) hs_)) (fun k_ hk_ => ⟨hk_.1.1.1.1.1.1.1.2, hk_.1.1.1.1.1.1.2, hk_.1.1.1.1.1.2, hk_.1.1.1.1.2, hk_.1.1.1.2, hk_.1.1.2, hk_.1.2⟩)) (Kd.R_mono (ok' := fun k_ => some k_ ≠ (.slice Ao71 t862.length co71 : Value).ownBlock ∧ some k_ ≠ (.slice Ao82 t868.length co82 : Value).ownBlock ∧ some k_ ≠ (.slice Ao93 t873.length co93 : Value).ownBlock ∧ some k_ ≠ (.slice Ao105 t878.length co105 : Value).ownBlock ∧ some k_ ≠ (.slice Ao118 t883.length co118 : Value).ownBlock ∧ some k_ ≠ (.slice Ao169 t890.length co169 : Value).ownBlock ∧ some k_ ≠ (.slice Ao173 t895.length co173 : Value).ownBlock) (Kd.R_keptB (HO902.out) hkp (fun k_ hk_ hs_ => (hk_.1.1.1.1.1.2) hs_)) (fun k_ hk_ => ⟨hk_.1.1.1.1.1.1.1.2, hk_.1.1.1.1.1.1.2, hk_.1.1.1.1.1.2, hk_.1.1.1.1.2, hk_.1.1.1.2, hk_.1.1.2, hk_.1.2⟩)) hb ?_; clear HO_867001 HO_872001 HO_877001 HO_882001 HO_888001 BK843 BK844 BK845 BK866 BK871 BK876 BK881 BK887 HO892 HO897 HO902 HB; intro HO_867001 HO_872001 HO_877001 HO_882001 HO_888001 BK843 BK844 BK845 BK866 BK871 BK876 BK881 BK887 HO892 HO897 HO902 HB; (try clear hb); (try clear hkp); (try clear hy0); have hnb188 := NB876_843.out; have hnc188 := NB843_876.out; have hnb189 := NB876_844.out; have hnc189 := NB844_876.out; have hnb190 := NB876_845.out; have hnc190 := NB845_876.out; have hnb191 := NB876_866.out; have hnc191 := NB866_876.out; have hnb192 := NB876_881.out; have hnc192 := NB881_876.out; have hnb193 := NB876_887.out; have hnc193 := NB887_876.out; have hcz194_0 : w187.cell? ⟨gb876, 0, none⟩ = some (.int .i64 t872) := (kQC BK876.out 0).trans rfl; have hcz194_1 : w187.cell? ⟨gb876, 1, none⟩ = some (.slice Ao93 t873.length co93) := (kQC BK876.out 1).trans rfl; have hfz194_0 := kQF BK876.out 0; have hfz194_1 := kQF BK876.out 1) | ((with_reducible refine gQc (f := 36) rfl ?_); refine goesL_ (some 87) rfl rfl Try.func36 (by kernel_rfl) rfl #[.agg #[.int .i64 t872, .slice Ao93 t873.length co93], .int .i64 t904] rfl tL ?_; (with_reducible refine (laws_markMatrix.calls kj46 t872 (fun k_ => some k_ = (.slice Ao93 t873.length co93 : Value).ownBlock) (.slice Ao93 t873.length co93) t873 t904 t906 t907 w _ ?s1 ?s2 A164.out).mono ?_); (case s1 => exact tB); (case s2 => exact Kd.R_tight rfl HO_877001.out); rintro e w195 ⟨rfl, hy0, hb, hkp⟩; refine ⟨_, rfl, ?_⟩; refine qM17 (Kd.R_mono (ok' := fun k_ => some k_ ≠ (.slice Ao82 t868.length co82 : Value).ownBlock ∧ some k_ ≠ (.slice Ao93 t873.length co93 : Value).ownBlock ∧ some k_ ≠ (.slice Ao105 t878.length co105 : Value).ownBlock ∧ some k_ ≠ (.slice Ao118 t883.length co118 : Value).ownBlock ∧ some k_ ≠ (.slice Ao169 t890.length co169 : Value).ownBlock ∧ some k_ ≠ (.slice Ao173 t895.length co173 : Value).ownBlock ∧ some k_ ≠ (.slice Ao177 t900.length co177 : Value).ownBlock) (Kd.R_keptB (HO_867001.out) hkp (fun k_ hk_ hs_ => (hk_.2.1) hs_)) (fun k_ hk_ => ⟨hk_.1.1, hk_.1.2.1, hk_.1.2.2.1, hk_.1.2.2.2.1, hk_.1.2.2.2.2.1, hk_.1.2.2.2.2.2.1, hk_.1.2.2.2.2.2.2⟩)) (Kd.R_mono (ok' := fun k_ => some k_ ≠ (.slice Ao71 t862.length co71 : Value).ownBlock ∧ some k_ ≠ (.slice Ao93 t873.length co93 : Value).ownBlock ∧ some k_ ≠ (.slice Ao105 t878.length co105 : Value).ownBlock ∧ some k_ ≠ (.slice Ao118 t883.length co118 : Value).ownBlock ∧ some k_ ≠ (.slice Ao169 t890.length co169 : Value).ownBlock ∧ some k_ ≠ (.slice Ao173 t895.length co173 : Value).ownBlock ∧ some k_ ≠ (.slice Ao177 t900.length co177 : Value).ownBlock) (Kd.R_keptB (HO_872001.out) hkp (fun k_ hk_ hs_ => (hk_.1.1.1.2.1) hs_)) (fun k_ hk_ => ⟨hk_.1.1.1.1.1, hk_.1.1.1.1.2.1, hk_.1.1.1.1.2.2.1, hk_.1.1.1.1.2.2.2, hk_.1.1.1.2, hk_.1.1.2, hk_.1.2⟩)) (Kd.R_reok rfl hy0 (fun k_ e_ => HO_877001.out.1 k_ e_)) (Kd.R_mono (ok' := fun k_ => some k_ ≠ (.slice Ao71 t862.length co71 : Value).ownBlock ∧ some k_ ≠ (.slice Ao82 t868.length co82 : Value).ownBlock ∧ some k_ ≠ (.slice Ao93 t873.length co93 : Value).ownBlock ∧ some k_ ≠ (.slice Ao118 t883.length co118 : Value).ownBlock ∧ some k_ ≠ (.slice Ao169 t890.length co169 : Value).ownBlock ∧ some k_ ≠ (.slice Ao173 t895.length co173 : Value).ownBlock ∧ some k_ ≠ (.slice Ao177 t900.length co177 : Value).ownBlock) (Kd.R_keptB (HO_882001.out) hkp (fun k_ hk_ hs_ => (hk_.2.2.1) hs_)) (fun k_ hk_ => ⟨hk_.1.1, hk_.1.2.1, hk_.1.2.2.1, hk_.1.2.2.2.1, hk_.1.2.2.2.2.1, hk_.1.2.2.2.2.2.1, hk_.1.2.2.2.2.2.2⟩)) (Kd.R_mono (ok' := fun k_ => some k_ ≠ (.slice Ao71 t862.length co71 : Value).ownBlock ∧ some k_ ≠ (.slice Ao82 t868.length co82 : Value).ownBlock ∧ some k_ ≠ (.slice Ao93 t873.length co93 : Value).ownBlock ∧ some k_ ≠ (.slice Ao105 t878.length co105 : Value).ownBlock ∧ some k_ ≠ (.slice Ao169 t890.length co169 : Value).ownBlock ∧ some k_ ≠ (.slice Ao173 t895.length co173 : Value).ownBlock ∧ some k_ ≠ (.slice Ao177 t900.length co177 : Value).ownBlock) (Kd.R_keptB (HO_888001.out) hkp (fun k_ hk_ hs_ => (hk_.2.2.1) hs_)) (fun k_ hk_ => ⟨hk_.1.1, hk_.1.2.1, hk_.1.2.2.1, hk_.1.2.2.2.1, hk_.1.2.2.2.2.1, hk_.1.2.2.2.2.2.1, hk_.1.2.2.2.2.2.2⟩)) (blk_kept (tG BK843.out) hkp (fun hs_ => (fun e_ => (Kd.R_ne HO_877001.out BK843.out (by decide)) e_) hs_)) (blk_kept (tG BK844.out) hkp (fun hs_ => (fun e_ => (Kd.R_ne HO_877001.out BK844.out (by decide)) e_) hs_)) (blk_kept (tG BK845.out) hkp (fun hs_ => (fun e_ => (Kd.R_ne HO_877001.out BK845.out (by decide)) e_) hs_)) (blk_kept (tG BK866.out) hkp (fun hs_ => (fun e_ => (Kd.R_ne HO_877001.out BK866.out (by decide)) e_) hs_)) (blk_kept (tG BK871.out) hkp (fun hs_ => (fun e_ => (Kd.R_ne HO_877001.out BK871.out (by decide)) e_) hs_)) (blk_kept (tG BK876.out) hkp (fun hs_ => (fun e_ => (Kd.R_ne HO_877001.out BK876.out (by decide)) e_) hs_)) (blk_kept (tG BK881.out) hkp (fun hs_ => (fun e_ => (Kd.R_ne HO_877001.out BK881.out (by decide)) e_) hs_)) (blk_kept (tG BK887.out) hkp (fun hs_ => (fun e_ => (Kd.R_ne HO_877001.out BK887.out (by decide)) e_) hs_)) (Kd.R_mono (ok' := fun k_ => some k_ ≠ (.slice Ao71 t862.length co71 : Value).ownBlock ∧ some k_ ≠ (.slice Ao82 t868.length co82 : Value).ownBlock ∧ some k_ ≠ (.slice Ao93 t873.length co93 : Value).ownBlock ∧ some k_ ≠ (.slice Ao105 t878.length co105 : Value).ownBlock ∧ some k_ ≠ (.slice Ao118 t883.length co118 : Value).ownBlock ∧ some k_ ≠ (.slice Ao173 t895.length co173 : Value).ownBlock ∧ some k_ ≠ (.slice Ao177 t900.length co177 : Value).ownBlock) (Kd.R_keptB (HO892.out) hkp (fun k_ hk_ hs_ => (hk_.2.2.1) hs_)) (fun k_ hk_ => ⟨hk_.1.1, hk_.1.2.1, hk_.1.2.2.1, hk_.1.2.2.2.1, hk_.1.2.2.2.2.1, hk_.1.2.2.2.2.2.1, hk_.1.2.2.2.2.2.2⟩)) (Kd.R_mono (ok' := fun k_ => some k_ ≠ (.slice Ao71 t862.length co71 : Value).ownBlock ∧ some k_ ≠ (.slice Ao82 t868.length co82 : Value).ownBlock ∧ some k_ ≠ (.slice Ao93 t873.length co93 : Value).ownBlock ∧ some k_ ≠ (.slice Ao105 t878.length co105 : Value).ownBlock ∧ some k_ ≠ (.slice Ao118 t883.length co118 : Value).ownBlock ∧ some k_ ≠ (.slice Ao169 t890.length co169 : Value).ownBlock ∧ some k_ ≠ (.slice Ao177 t900.length co177 : Value).ownBlock) (Kd.R_keptB (HO897.out) hkp (fun k_ hk_ hs_ => (hk_.2.2.1) hs_)) (fun k_ hk_ => ⟨hk_.1.1, hk_.1.2.1, hk_.1.2.2.1, hk_.1.2.2.2.1, hk_.1.2.2.2.2.1, hk_.1.2.2.2.2.2.1, hk_.1.2.2.2.2.2.2⟩)) (Kd.R_mono (ok' := fun k_ => some k_ ≠ (.slice Ao71 t862.length co71 : Value).ownBlock ∧ some k_ ≠ (.slice Ao82 t868.length co82 : Value).ownBlock ∧ some k_ ≠ (.slice Ao93 t873.length co93 : Value).ownBlock ∧ some k_ ≠ (.slice Ao105 t878.length co105 : Value).ownBlock ∧ some k_ ≠ (.slice Ao118 t883.length co118 : Value).ownBlock ∧ some k_ ≠ (.slice Ao169 t890.length co169 : Value).ownBlock ∧ some k_ ≠ (.slice Ao173 t895.length co173 : Value).ownBlock) (Kd.R_keptB (HO902.out) hkp (fun k_ hk_ hs_ => (hk_.2.2.1) hs_)) (fun k_ hk_ => ⟨hk_.1.1, hk_.1.2.1, hk_.1.2.2.1, hk_.1.2.2.2.1, hk_.1.2.2.2.2.1, hk_.1.2.2.2.2.2.1, hk_.1.2.2.2.2.2.2⟩)) hb ?_; clear HO_867001 HO_872001 HO_877001 HO_882001 HO_888001 BK843 BK844 BK845 BK866 BK871 BK876 BK881 BK887 HO892 HO897 HO902 HB; intro HO_867001 HO_872001 HO_877001 HO_882001 HO_888001 BK843 BK844 BK845 BK866 BK871 BK876 BK881 BK887 HO892 HO897 HO902 HB; (try clear hb); (try clear hkp); (try clear hy0); have hnb196 := NB881_843.out; have hnc196 := NB843_881.out; have hnb197 := NB881_844.out; have hnc197 := NB844_881.out; have hnb198 := NB881_845.out; have hnc198 := NB845_881.out; have hnb199 := NB881_866.out; have hnc199 := NB866_881.out; have hnb200 := NB881_887.out; have hnc200 := NB887_881.out; have hcz201_0 : w195.cell? ⟨gb881, 0, none⟩ = some (.int .i64 t877) := (kQC BK881.out 0).trans rfl; have hcz201_1 : w195.cell? ⟨gb881, 1, none⟩ = some (.slice Ao105 t878.length co105) := (kQC BK881.out 1).trans rfl; have hfz201_0 := kQF BK881.out 0; have hfz201_1 := kQF BK881.out 1) | ((with_reducible refine gQc (f := 36) rfl ?_); refine goesL_ (some 90) rfl rfl Try.func36 (by kernel_rfl) rfl #[.agg #[.int .i64 t877, .slice Ao105 t878.length co105], .int .i64 t906] rfl tL ?_; (with_reducible refine (laws_markMatrix.calls kj46 t877 (fun k_ => some k_ = (.slice Ao105 t878.length co105 : Value).ownBlock) (.slice Ao105 t878.length co105) t878 t906 t908 t909 w _ ?s1 ?s2 A165.out).mono ?_); (case s1 => exact tB); (case s2 => exact Kd.R_tight rfl HO_882001.out); rintro e w202 ⟨rfl, hy0, hb, hkp⟩; refine ⟨_, rfl, ?_⟩; refine qM17 (Kd.R_mono (ok' := fun k_ => some k_ ≠ (.slice Ao82 t868.length co82 : Value).ownBlock ∧ some k_ ≠ (.slice Ao93 t873.length co93 : Value).ownBlock ∧ some k_ ≠ (.slice Ao105 t878.length co105 : Value).ownBlock ∧ some k_ ≠ (.slice Ao118 t883.length co118 : Value).ownBlock ∧ some k_ ≠ (.slice Ao169 t890.length co169 : Value).ownBlock ∧ some k_ ≠ (.slice Ao173 t895.length co173 : Value).ownBlock ∧ some k_ ≠ (.slice Ao177 t900.length co177 : Value).ownBlock) (Kd.R_keptB (HO_867001.out) hkp (fun k_ hk_ hs_ => (hk_.2.2.1) hs_)) (fun k_ hk_ => ⟨hk_.1.1, hk_.1.2.1, hk_.1.2.2.1, hk_.1.2.2.2.1, hk_.1.2.2.2.2.1, hk_.1.2.2.2.2.2.1, hk_.1.2.2.2.2.2.2⟩)) (Kd.R_mono (ok' := fun k_ => some k_ ≠ (.slice Ao71 t862.length co71 : Value).ownBlock ∧ some k_ ≠ (.slice Ao93 t873.length co93 : Value).ownBlock ∧ some k_ ≠ (.slice Ao105 t878.length co105 : Value).ownBlock ∧ some k_ ≠ (.slice Ao118 t883.length co118 : Value).ownBlock ∧ some k_ ≠ (.slice Ao169 t890.length co169 : Value).ownBlock ∧ some k_ ≠ (.slice Ao173 t895.length co173 : Value).ownBlock ∧ some k_ ≠ (.slice Ao177 t900.length co177 : Value).ownBlock) (Kd.R_keptB (HO_872001.out) hkp (fun k_ hk_ hs_ => (hk_.2.2.1) hs_)) (fun k_ hk_ => ⟨hk_.1.1, hk_.1.2.1, hk_.1.2.2.1, hk_.1.2.2.2.1, hk_.1.2.2.2.2.1, hk_.1.2.2.2.2.2.1, hk_.1.2.2.2.2.2.2⟩)) (Kd.R_mono (ok' := fun k_ => some k_ ≠ (.slice Ao71 t862.length co71 : Value).ownBlock ∧ some k_ ≠ (.slice Ao82 t868.length co82 : Value).ownBlock ∧ some k_ ≠ (.slice Ao105 t878.length co105 : Value).ownBlock ∧ some k_ ≠ (.slice Ao118 t883.length co118 : Value).ownBlock ∧ some k_ ≠ (.slice Ao169 t890.length co169 : Value).ownBlock ∧ some k_ ≠ (.slice Ao173 t895.length co173 : Value).ownBlock ∧ some k_ ≠ (.slice Ao177 t900.length co177 : Value).ownBlock) (Kd.R_keptB (HO_877001.out) hkp (fun k_ hk_ hs_ => (hk_.2.2.1) hs_)) (fun k_ hk_ => ⟨hk_.1.1, hk_.1.2.1, hk_.1.2.2.1, hk_.1.2.2.2.1, hk_.1.2.2.2.2.1, hk_.1.2.2.2.2.2.1, hk_.1.2.2.2.2.2.2⟩)) (Kd.R_reok rfl hy0 (fun k_ e_ => HO_882001.out.1 k_ e_)) (Kd.R_mono (ok' := fun k_ => some k_ ≠ (.slice Ao71 t862.length co71 : Value).ownBlock ∧ some k_ ≠ (.slice Ao82 t868.length co82 : Value).ownBlock ∧ some k_ ≠ (.slice Ao93 t873.length co93 : Value).ownBlock ∧ some k_ ≠ (.slice Ao105 t878.length co105 : Value).ownBlock ∧ some k_ ≠ (.slice Ao169 t890.length co169 : Value).ownBlock ∧ some k_ ≠ (.slice Ao173 t895.length co173 : Value).ownBlock ∧ some k_ ≠ (.slice Ao177 t900.length co177 : Value).ownBlock) (Kd.R_keptB (HO_888001.out) hkp (fun k_ hk_ hs_ => (hk_.2.2.2.1) hs_)) (fun k_ hk_ => ⟨hk_.1.1, hk_.1.2.1, hk_.1.2.2.1, hk_.1.2.2.2.1, hk_.1.2.2.2.2.1, hk_.1.2.2.2.2.2.1, hk_.1.2.2.2.2.2.2⟩)) (blk_kept (tG BK843.out) hkp (fun hs_ => (fun e_ => (Kd.R_ne HO_882001.out BK843.out (by decide)) e_) hs_)) (blk_kept (tG BK844.out) hkp (fun hs_ => (fun e_ => (Kd.R_ne HO_882001.out BK844.out (by decide)) e_) hs_)) (blk_kept (tG BK845.out) hkp (fun hs_ => (fun e_ => (Kd.R_ne HO_882001.out BK845.out (by decide)) e_) hs_)) (blk_kept (tG BK866.out) hkp (fun hs_ => (fun e_ => (Kd.R_ne HO_882001.out BK866.out (by decide)) e_) hs_)) (blk_kept (tG BK871.out) hkp (fun hs_ => (fun e_ => (Kd.R_ne HO_882001.out BK871.out (by decide)) e_) hs_)) (blk_kept (tG BK876.out) hkp (fun hs_ => (fun e_ => (Kd.R_ne HO_882001.out BK876.out (by decide)) e_) hs_)) (blk_kept (tG BK881.out) hkp (fun hs_ => (fun e_ => (Kd.R_ne HO_882001.out BK881.out (by decide)) e_) hs_)) (blk_kept (tG BK887.out) hkp (fun hs_ => (fun e_ => (Kd.R_ne HO_882001.out BK887.out (by decide)) e_) hs_)) (Kd.R_mono (ok' := fun k_ => some k_ ≠ (.slice Ao71 t862.length co71 : Value).ownBlock ∧ some k_ ≠ (.slice Ao82 t868.length co82 : Value).ownBlock ∧ some k_ ≠ (.slice Ao93 t873.length co93 : Value).ownBlock ∧ some k_ ≠ (.slice Ao105 t878.length co105 : Value).ownBlock ∧ some k_ ≠ (.slice Ao118 t883.length co118 : Value).ownBlock ∧ some k_ ≠ (.slice Ao173 t895.length co173 : Value).ownBlock ∧ some k_ ≠ (.slice Ao177 t900.length co177 : Value).ownBlock) (Kd.R_keptB (HO892.out) hkp (fun k_ hk_ hs_ => (hk_.2.2.2.1) hs_)) (fun k_ hk_ => ⟨hk_.1.1, hk_.1.2.1, hk_.1.2.2.1, hk_.1.2.2.2.1, hk_.1.2.2.2.2.1, hk_.1.2.2.2.2.2.1, hk_.1.2.2.2.2.2.2⟩)) (Kd.R_mono (ok' := fun k_ => some k_ ≠ (.slice Ao71 t862.length co71 : Value).ownBlock ∧ some k_ ≠ (.slice Ao82 t868.length co82 : Value).ownBlock ∧ some k_ ≠ (.slice Ao93 t873.length co93 : Value).ownBlock ∧ some k_ ≠ (.slice Ao105 t878.length co105 : Value).ownBlock ∧ some k_ ≠ (.slice Ao118 t883.length co118 : Value).ownBlock ∧ some k_ ≠ (.slice Ao169 t890.length co169 : Value).ownBlock ∧ some k_ ≠ (.slice Ao177 t900.length co177 : Value).ownBlock) (Kd.R_keptB (HO897.out) hkp (fun k_ hk_ hs_ => (hk_.2.2.2.1) hs_)) (fun k_ hk_ => ⟨hk_.1.1, hk_.1.2.1, hk_.1.2.2.1, hk_.1.2.2.2.1, hk_.1.2.2.2.2.1, hk_.1.2.2.2.2.2.1, hk_.1.2.2.2.2.2.2⟩)) (Kd.R_mono (ok' := fun k_ => some k_ ≠ (.slice Ao71 t862.length co71 : Value).ownBlock ∧ some k_ ≠ (.slice Ao82 t868.length co82 : Value).ownBlock ∧ some k_ ≠ (.slice Ao93 t873.length co93 : Value).ownBlock ∧ some k_ ≠ (.slice Ao105 t878.length co105 : Value).ownBlock ∧ some k_ ≠ (.slice Ao118 t883.length co118 : Value).ownBlock ∧ some k_ ≠ (.slice Ao169 t890.length co169 : Value).ownBlock ∧ some k_ ≠ (.slice Ao173 t895.length co173 : Value).ownBlock) (Kd.R_keptB (HO902.out) hkp (fun k_ hk_ hs_ => (hk_.2.2.2.1) hs_)) (fun k_ hk_ => ⟨hk_.1.1, hk_.1.2.1, hk_.1.2.2.1, hk_.1.2.2.2.1, hk_.1.2.2.2.2.1, hk_.1.2.2.2.2.2.1, hk_.1.2.2.2.2.2.2⟩)) hb ?_; clear HO_867001 HO_872001 HO_877001 HO_882001 HO_888001 BK843 BK844 BK845 BK866 BK871 BK876 BK881 BK887 HO892 HO897 HO902 HB; intro HO_867001 HO_872001 HO_877001 HO_882001 HO_888001 BK843 BK844 BK845 BK866 BK871 BK876 BK881 BK887 HO892 HO897 HO902 HB; (try clear hb); (try clear hkp); (try clear hy0)))
   (try simp only [Act.put, qSa, qSb, qSc])
   go_cut [103] (fun v103 wc => ∃ (kq : Nat) (x103_165 : Bool), v103 = .bool x103_165 ∧ Aq (laws_FnExactSendThrough.j1 kq t865 x103_165 a0_0 l0_1 a1_0 l1_1 a2_0 l2_1 t861 t862 t882 t883 = some r) ∧ Aq (kq ≤ kj46) ∧ Aq (Kd.R (Kd.int .i64) 2 wc w.heap.size (fun k_ => some k_ ≠ ((.slice Ao82 t868.length co82) : Value).ownBlock ∧ some k_ ≠ ((.slice Ao93 t873.length co93) : Value).ownBlock ∧ some k_ ≠ ((.slice Ao105 t878.length co105) : Value).ownBlock ∧ some k_ ≠ ((.slice Ao118 t883.length co118) : Value).ownBlock) (.slice Ao71 t862.length co71) t862) ∧ Aq (Kd.R (Kd.int .i64) 2 wc w.heap.size (fun k_ => some k_ ≠ ((.slice Ao71 t862.length co71) : Value).ownBlock ∧ some k_ ≠ ((.slice Ao93 t873.length co93) : Value).ownBlock ∧ some k_ ≠ ((.slice Ao105 t878.length co105) : Value).ownBlock ∧ some k_ ≠ ((.slice Ao118 t883.length co118) : Value).ownBlock) (.slice Ao82 t868.length co82) t905) ∧ Aq (Kd.R (Kd.int .i64) 2 wc w.heap.size (fun k_ => some k_ ≠ ((.slice Ao71 t862.length co71) : Value).ownBlock ∧ some k_ ≠ ((.slice Ao82 t868.length co82) : Value).ownBlock ∧ some k_ ≠ ((.slice Ao105 t878.length co105) : Value).ownBlock ∧ some k_ ≠ ((.slice Ao118 t883.length co118) : Value).ownBlock) (.slice Ao93 t873.length co93) t907) ∧ Aq (Kd.R (Kd.int .i64) 2 wc w.heap.size (fun k_ => some k_ ≠ ((.slice Ao71 t862.length co71) : Value).ownBlock ∧ some k_ ≠ ((.slice Ao82 t868.length co82) : Value).ownBlock ∧ some k_ ≠ ((.slice Ao93 t873.length co93) : Value).ownBlock ∧ some k_ ≠ ((.slice Ao118 t883.length co118) : Value).ownBlock) (.slice Ao105 t878.length co105) t909) ∧ Aq (Kd.R (Kd.int .i64) 2 wc w.heap.size (fun k_ => some k_ ≠ ((.slice Ao71 t862.length co71) : Value).ownBlock ∧ some k_ ≠ ((.slice Ao82 t868.length co82) : Value).ownBlock ∧ some k_ ≠ ((.slice Ao93 t873.length co93) : Value).ownBlock ∧ some k_ ≠ ((.slice Ao105 t878.length co105) : Value).ownBlock) (.slice Ao118 t883.length co118) t883) ∧ Aq (wc.heap[gb843]? = some (.cells #[.int .i64 a0_0, (.slice A0_1 l0_1.length c0_1)] 55 (0, 0))) ∧ Aq (wc.heap[gb844]? = some (.cells #[.int .i64 a1_0, (.slice A1_1 l1_1.length c1_1)] 55 (0, 0))) ∧ Aq (wc.heap[gb845]? = some (.cells #[.int .i64 a2_0, (.slice A2_1 l2_1.length c2_1)] 55 (0, 0))) ∧ Aq (wc.heap[gb866]? = some (.cells #[.int .i64 t861, (.slice Ao71 t862.length co71)] 27 (0, 0))) ∧ Aq (wc.heap[gb871]? = some (.cells #[.int .i64 t867, (.slice Ao82 t868.length co82)] 27 (0, 0))) ∧ Aq (wc.heap[gb876]? = some (.cells #[.int .i64 t872, (.slice Ao93 t873.length co93)] 27 (0, 0))) ∧ Aq (wc.heap[gb881]? = some (.cells #[.int .i64 t877, (.slice Ao105 t878.length co105)] 27 (0, 0))) ∧ Aq (wc.heap[gb887]? = some (.cells #[.int .i64 t882, (.slice Ao118 t883.length co118)] 27 (0, 0))) ∧ Aq (Below w.heap.size w wc))
   case first =>
    have H := HC166.out
    clear HC166
    by_cases c203 : t908 < 0
    ·rw [if_pos c203] at H
     have c203b0 := decide_eq_true c203
     clear c203
     (first | rw [c203b0] | (simp only [i64_w, i32_w]; rw [c203b0]) | skip)
     replace H' := Aq.mk H
     clear H
     go_wp2
     go_meet
     case rel => exact ⟨_, (true), tS, H', ⟨by have := HJ46.out; first | omega | exact Nat.le_refl _⟩, ⟨by (with_reducible repeat (first | apply Kd.RqA | apply Kd.RqN | apply Kd.RqD)); exact Kd.R_mono HO_867001.out (fun _ hk => ⟨hk.1, ⟨hk.2.1, ⟨hk.2.2.1, hk.2.2.2.1⟩⟩⟩)⟩, ⟨by (with_reducible repeat (first | apply Kd.RqA | apply Kd.RqN | apply Kd.RqD)); exact Kd.R_mono HO_872001.out (fun _ hk => ⟨hk.1, ⟨hk.2.1, ⟨hk.2.2.1, hk.2.2.2.1⟩⟩⟩)⟩, ⟨by (with_reducible repeat (first | apply Kd.RqA | apply Kd.RqN | apply Kd.RqD)); exact Kd.R_mono HO_877001.out (fun _ hk => ⟨hk.1, ⟨hk.2.1, ⟨hk.2.2.1, hk.2.2.2.1⟩⟩⟩)⟩, ⟨by (with_reducible repeat (first | apply Kd.RqA | apply Kd.RqN | apply Kd.RqD)); exact Kd.R_mono HO_882001.out (fun _ hk => ⟨hk.1, ⟨hk.2.1, ⟨hk.2.2.1, hk.2.2.2.1⟩⟩⟩)⟩, ⟨by (with_reducible repeat (first | apply Kd.RqA | apply Kd.RqN | apply Kd.RqD)); exact Kd.R_mono HO_888001.out (fun _ hk => ⟨hk.1, ⟨hk.2.1, ⟨hk.2.2.1, hk.2.2.2.1⟩⟩⟩)⟩, ⟨tG BK843.out⟩, ⟨tG BK844.out⟩, ⟨tG BK845.out⟩, ⟨tG BK866.out⟩, ⟨tG BK871.out⟩, ⟨tG BK876.out⟩, ⟨tG BK881.out⟩, ⟨tG BK887.out⟩, ⟨tB⟩⟩
    rw [if_neg c203] at H
    have c203b0 := decide_eq_false c203
    clear c203
    (first | rw [c203b0] | (simp only [i64_w, i32_w]; rw [c203b0]) | skip)
    obtain ⟨t910, A204, H⟩ := qBd H
    by_cases c205 : t910 = true
    ·subst c205
     rw [if_pos rfl] at H
     replace H' := Aq.mk H
     clear H
     have hnb206 := NB887_843.out
     have hnc206 := NB843_887.out
     have hnb207 := NB887_844.out
     have hnc207 := NB844_887.out
     have hnb208 := NB887_845.out
     have hnc208 := NB845_887.out
     have hnb209 := NB887_866.out
     have hnc209 := NB866_887.out
     have hnb210 := NB887_871.out
     have hnc210 := NB871_887.out
     have hnb211 := NB887_876.out
     have hnc211 := NB876_887.out
     have hnb212 := NB887_881.out
     have hnc212 := NB881_887.out
     have hcz213_0 : w202.cell? ⟨gb887, 0, none⟩ = some (.int .i64 t882) := (kQC BK887.out 0).trans rfl
     have hcz213_1 : w202.cell? ⟨gb887, 1, none⟩ = some (.slice Ao118 t883.length co118) := (kQC BK887.out 1).trans rfl
     have hfz213_0 := kQF BK887.out 0
     have hfz213_1 := kQF BK887.out 1
     have hnb214 := NB866_843.out
     have hnc214 := NB843_866.out
     have hnb215 := NB866_844.out
     have hnc215 := NB844_866.out
     have hnb216 := NB866_845.out
     have hnc216 := NB845_866.out
     have hnb217 := NB866_871.out
     have hnc217 := NB871_866.out
     have hnb218 := NB866_876.out
     have hnc218 := NB876_866.out
     have hnb219 := NB866_881.out
     have hnc219 := NB881_866.out
     have hcz220_0 : w202.cell? ⟨gb866, 0, none⟩ = some (.int .i64 t861) := (kQC BK866.out 0).trans rfl
     have hcz220_1 : w202.cell? ⟨gb866, 1, none⟩ = some (.slice Ao71 t862.length co71) := (kQC BK866.out 1).trans rfl
     have hfz220_0 := kQF BK866.out 0
     have hfz220_1 := kQF BK866.out 1
     go_wp2_with (first | (go_at_call 35; (with_reducible refine (laws_eqMatrix.calls kj46 t882 _ _ t883 t861 _ _ t862 true _ ?s1 ?s2 ?s3 ?s4 A204.out).mono ?_); (case s1 => exact tC ((Kd.R_reads' HO_888001.out).2.2)); (case s2 => exact (Kd.R_reads' HO_888001.out).2.1); (case s3 => exact tC ((Kd.R_reads' HO_867001.out).2.2)); (case s4 => exact (Kd.R_reads' HO_867001.out).2.1); rintro e w221 ⟨rfl, hb⟩; refine qM17 (Kd.R_below (tR HO_867001.out) hb) (Kd.R_below (tR HO_872001.out) hb) (Kd.R_below (tR HO_877001.out) hb) (Kd.R_below (tR HO_882001.out) hb) (Kd.R_below (tR HO_888001.out) hb) (Kd.R_below (tR HO892.out) hb) (Kd.R_below (tR HO897.out) hb) (Kd.R_below (tR HO902.out) hb) (tQ BK843.out hb) (tQ BK844.out hb) (tQ BK845.out hb) (tQ BK866.out hb) (tQ BK871.out hb) (tQ BK876.out hb) (tQ BK881.out hb) (tQ BK887.out hb) (bQT tB hb) ?_; clear HO_867001 HO_872001 HO_877001 HO_882001 HO_888001 HO892 HO897 HO902 BK843 BK844 BK845 BK866 BK871 BK876 BK881 BK887 HB; intro HO_867001 HO_872001 HO_877001 HO_882001 HO_888001 HO892 HO897 HO902 BK843 BK844 BK845 BK866 BK871 BK876 BK881 BK887 HB; (try clear hb); (try clear hb2); (try clear hk); (try clear hi)))
     go_meet
     case rel => exact ⟨_, ((t886 != t865)), tS, H', ⟨by have := HJ46.out; first | omega | exact Nat.le_refl _⟩, ⟨by (with_reducible repeat (first | apply Kd.RqA | apply Kd.RqN | apply Kd.RqD)); exact Kd.R_mono HO_867001.out (fun _ hk => ⟨hk.1, ⟨hk.2.1, ⟨hk.2.2.1, hk.2.2.2.1⟩⟩⟩)⟩, ⟨by (with_reducible repeat (first | apply Kd.RqA | apply Kd.RqN | apply Kd.RqD)); exact Kd.R_mono HO_872001.out (fun _ hk => ⟨hk.1, ⟨hk.2.1, ⟨hk.2.2.1, hk.2.2.2.1⟩⟩⟩)⟩, ⟨by (with_reducible repeat (first | apply Kd.RqA | apply Kd.RqN | apply Kd.RqD)); exact Kd.R_mono HO_877001.out (fun _ hk => ⟨hk.1, ⟨hk.2.1, ⟨hk.2.2.1, hk.2.2.2.1⟩⟩⟩)⟩, ⟨by (with_reducible repeat (first | apply Kd.RqA | apply Kd.RqN | apply Kd.RqD)); exact Kd.R_mono HO_882001.out (fun _ hk => ⟨hk.1, ⟨hk.2.1, ⟨hk.2.2.1, hk.2.2.2.1⟩⟩⟩)⟩, ⟨by (with_reducible repeat (first | apply Kd.RqA | apply Kd.RqN | apply Kd.RqD)); exact Kd.R_mono HO_888001.out (fun _ hk => ⟨hk.1, ⟨hk.2.1, ⟨hk.2.2.1, hk.2.2.2.1⟩⟩⟩)⟩, ⟨tG BK843.out⟩, ⟨tG BK844.out⟩, ⟨tG BK845.out⟩, ⟨tG BK866.out⟩, ⟨tG BK871.out⟩, ⟨tG BK876.out⟩, ⟨tG BK881.out⟩, ⟨tG BK887.out⟩, ⟨tB⟩⟩
    replace c205 := Bool.eq_false_iff.mpr c205
    subst c205
    rw [if_neg (show ¬ (false = true) by decide)] at H
    replace H' := Aq.mk H
    clear H
    have hnb222 := NB887_843.out
    have hnc222 := NB843_887.out
    have hnb223 := NB887_844.out
    have hnc223 := NB844_887.out
    have hnb224 := NB887_845.out
    have hnc224 := NB845_887.out
    have hnb225 := NB887_866.out
    have hnc225 := NB866_887.out
    have hnb226 := NB887_871.out
    have hnc226 := NB871_887.out
    have hnb227 := NB887_876.out
    have hnc227 := NB876_887.out
    have hnb228 := NB887_881.out
    have hnc228 := NB881_887.out
    have hcz229_0 : w202.cell? ⟨gb887, 0, none⟩ = some (.int .i64 t882) := (kQC BK887.out 0).trans rfl
    have hcz229_1 : w202.cell? ⟨gb887, 1, none⟩ = some (.slice Ao118 t883.length co118) := (kQC BK887.out 1).trans rfl
    have hfz229_0 := kQF BK887.out 0
    have hfz229_1 := kQF BK887.out 1
    have hnb230 := NB866_843.out
    have hnc230 := NB843_866.out
    have hnb231 := NB866_844.out
    have hnc231 := NB844_866.out
    have hnb232 := NB866_845.out
    have hnc232 := NB845_866.out
    have hnb233 := NB866_871.out
    have hnc233 := NB871_866.out
    have hnb234 := NB866_876.out
    have hnc234 := NB876_866.out
    have hnb235 := NB866_881.out
    have hnc235 := NB881_866.out
    have hcz236_0 : w202.cell? ⟨gb866, 0, none⟩ = some (.int .i64 t861) := (kQC BK866.out 0).trans rfl
    have hcz236_1 : w202.cell? ⟨gb866, 1, none⟩ = some (.slice Ao71 t862.length co71) := (kQC BK866.out 1).trans rfl
    have hfz236_0 := kQF BK866.out 0
    have hfz236_1 := kQF BK866.out 1
    go_wp2_with (first | (go_at_call 35; (with_reducible refine (laws_eqMatrix.calls kj46 t882 _ _ t883 t861 _ _ t862 false _ ?s1 ?s2 ?s3 ?s4 A204.out).mono ?_); (case s1 => exact tC ((Kd.R_reads' HO_888001.out).2.2)); (case s2 => exact (Kd.R_reads' HO_888001.out).2.1); (case s3 => exact tC ((Kd.R_reads' HO_867001.out).2.2)); (case s4 => exact (Kd.R_reads' HO_867001.out).2.1); rintro e w237 ⟨rfl, hb⟩; refine qM17 (Kd.R_below (tR HO_867001.out) hb) (Kd.R_below (tR HO_872001.out) hb) (Kd.R_below (tR HO_877001.out) hb) (Kd.R_below (tR HO_882001.out) hb) (Kd.R_below (tR HO_888001.out) hb) (Kd.R_below (tR HO892.out) hb) (Kd.R_below (tR HO897.out) hb) (Kd.R_below (tR HO902.out) hb) (tQ BK843.out hb) (tQ BK844.out hb) (tQ BK845.out hb) (tQ BK866.out hb) (tQ BK871.out hb) (tQ BK876.out hb) (tQ BK881.out hb) (tQ BK887.out hb) (bQT tB hb) ?_; clear HO_867001 HO_872001 HO_877001 HO_882001 HO_888001 HO892 HO897 HO902 BK843 BK844 BK845 BK866 BK871 BK876 BK881 BK887 HB; intro HO_867001 HO_872001 HO_877001 HO_882001 HO_888001 HO892 HO897 HO902 BK843 BK844 BK845 BK866 BK871 BK876 BK881 BK887 HB; (try clear hb); (try clear hb2); (try clear hk); (try clear hi)))
    go_meet
    case rel => exact ⟨_, (true), tS, H', ⟨by have := HJ46.out; first | omega | exact Nat.le_refl _⟩, ⟨by (with_reducible repeat (first | apply Kd.RqA | apply Kd.RqN | apply Kd.RqD)); exact Kd.R_mono HO_867001.out (fun _ hk => ⟨hk.1, ⟨hk.2.1, ⟨hk.2.2.1, hk.2.2.2.1⟩⟩⟩)⟩, ⟨by (with_reducible repeat (first | apply Kd.RqA | apply Kd.RqN | apply Kd.RqD)); exact Kd.R_mono HO_872001.out (fun _ hk => ⟨hk.1, ⟨hk.2.1, ⟨hk.2.2.1, hk.2.2.2.1⟩⟩⟩)⟩, ⟨by (with_reducible repeat (first | apply Kd.RqA | apply Kd.RqN | apply Kd.RqD)); exact Kd.R_mono HO_877001.out (fun _ hk => ⟨hk.1, ⟨hk.2.1, ⟨hk.2.2.1, hk.2.2.2.1⟩⟩⟩)⟩, ⟨by (with_reducible repeat (first | apply Kd.RqA | apply Kd.RqN | apply Kd.RqD)); exact Kd.R_mono HO_882001.out (fun _ hk => ⟨hk.1, ⟨hk.2.1, ⟨hk.2.2.1, hk.2.2.2.1⟩⟩⟩)⟩, ⟨by (with_reducible repeat (first | apply Kd.RqA | apply Kd.RqN | apply Kd.RqD)); exact Kd.R_mono HO_888001.out (fun _ hk => ⟨hk.1, ⟨hk.2.1, ⟨hk.2.2.1, hk.2.2.2.1⟩⟩⟩)⟩, ⟨tG BK843.out⟩, ⟨tG BK844.out⟩, ⟨tG BK845.out⟩, ⟨tG BK866.out⟩, ⟨tG BK871.out⟩, ⟨tG BK876.out⟩, ⟨tG BK881.out⟩, ⟨tG BK887.out⟩, ⟨tB⟩⟩
   rename_i zf_1_0 zf_1_1 zf_1_2 zf_1_3 zf_1_4 zf_1_5 zf_1_6 zf_1_7 zf_1_8 zf_1_9 zf_1_10 zf_1_11 zf_1_12 zf_1_13 zf_1_14 zf_1_15 zf_1_16 zf_1_17 zf_1_18 zf_1_19 zf_1_20 zf_1_21 zf_1_22 zf_1_23 zf_1_24 zf_1_25 zf_1_26 zf_1_27 zf_1_28 zf_1_29 zf_1_30 zf_1_31 zf_1_32 zf_1_33 zf_1_34 zf_1_35 zf_1_36 zf_1_37 zf_1_38 zf_1_39 zf_1_40 zf_1_41 zf_1_42 zf_1_43 zf_1_44 zf_1_45 zf_1_46 zf_1_47 zf_1_48 zf_1_49 zf_1_50 zf_1_51 zf_1_52 zf_1_53 zf_1_54 zf_1_55 zf_1_56 zf_1_57 zf_1_58 zf_1_59 zf_1_60 zf_1_61 zf_1_62 zf_1_63 zf_1_64 zf_1_65 zf_1_66 zf_1_67 zf_1_68 zf_1_69 zf_1_70 zf_1_71 zf_1_72 zf_1_73 zf_1_74 zf_1_75 zf_1_76 zf_1_77 zf_1_78 zf_1_79 zf_1_80 zf_1_81 zf_1_82 zf_1_83 zf_1_84 zf_1_85 zf_1_86 zf_1_87 zf_1_88 zf_1_89 zf_1_90 zf_1_91 zf_1_92 zf_1_93 zf_1_94 zf_1_95 zf_1_96 zf_1_97 zf_1_98 zf_1_99 zf_1_100 zf_1_101 zf_1_102 zf_1_103 zf_1_104 zf_1_105 zf_1_106 zf_1_107 zf_1_108 zf_1_109 zf_1_110 zf_1_111 zf_1_112 zf_1_113 zf_1_114 zf_1_115 zf_1_116 zf_1_117 zf_1_118 zf_1_119 zf_1_120 zf_1_121 zf_1_122 zf_1_123 zf_1_124 zf_1_125 zf_1_126 zf_1_127 zf_1_128 zf_1_129 zf_1_130 zf_1_131 zf_1_132 zf_1_133 zf_1_134 zf_1_135 zf_1_136 zf_1_137 zf_1_138 zf_1_139 zf_1_140 zf_1_141 zf_1_142 zf_1_143 zf_1_144 zf_1_145 zf_1_146 zf_1_147 zf_1_148 zf_1_149 zf_1_150 zf_1_151 zf_1_152
   clear hG0_
   revert k a0_0 A0_1 c0_1 l0_1 a1_0 A1_1 c1_1 l1_1 a2_0 A2_1 c2_1 l2_1 r w hu55 hu27 HR0_1 HC0_1 HR1_1 HC1_1 HR2_1 HC2_1 za_2_0 t846 A4 za_2_1 c5b0 t847 A13 za_2_2 c14b0 t848 A25 za_2_3 c26b0 t849 t850 A39 za_2_4 t853 t854 A40 za_2_5 t857 t858 A41 za_2_6 t861 t862 t865 A42 za_2_7 t867 t868 A43 za_2_8 t872 t873 A44 za_2_9 t877 t878 A45 zf_1_0 t882 t883 t886 A46 za_2_10 gb843 w48 GW843 GE843 gb844 w49 GW844 GE844 NB843_844 NB844_843 gb845 w50 GW845 GE845 NB843_845 NB845_843 NB844_845 NB845_844 hnb51 hnc51 hnb52 hnc52 hcz53_0 hcz53_1 hfz53_0 hfz53_1 w54 hnb55 hnc55 hcz56_0 hcz56_1 hfz56_0 hfz56_1 w57 hcz58_0 hcz58_1 hfz58_0 hfz58_1 w59 HT_ HW_ w60 za_2_11 v851 v855 v859 gb866 w69 hS_ GW866 GE866 NB843_866 NB866_843 NB844_866 NB866_844 NB845_866 NB866_845 za_2_12 Ao71 co71 hs70 hfs70 hns70_0 hns70_1 hns70_2 hms70_0 hms70_1 hms70_2 hs72 hfs72 hns72_0 hns72_1 hns72_2 hms72_0 hms72_1 hms72_2 zf_1_1 hnb73 hnc73 w75 gb871 w76 GW871 GE871 NB843_871 NB871_843 NB844_871 NB871_844 NB845_871 NB871_845 NB866_871 NB871_866 hnb77 hnc77 hnb78 hnc78 hnb79 hnc79 hnb80 hnc80 Ao82 co82 hnb83 hnc83 w85 gb876 w86 GW876 GE876 NB843_876 NB876_843 NB844_876 NB876_844 NB845_876 NB876_845 NB866_876 NB876_866 NB871_876 NB876_871 hnb87 hnc87 hnb88 hnc88 hnb89 hnc89 hnb90 hnc90 hnb91 hnc91 Ao93 co93 hnb94 hnc94 w96 gb881 w97 GW881 GE881 NB843_881 NB881_843 NB844_881 NB881_844 NB845_881 NB881_845 NB866_881 NB881_866 NB871_881 NB881_871 NB876_881 NB881_876 hnb98 hnc98 hnb99 hnc99 hnb100 hnc100 hnb101 hnc101 hnb102 hnc102 hnb103 hnc103 Ao105 co105 w108 gb887 w109 zf_1_2 zf_1_3 zf_1_4 zf_1_5 zf_1_6 zf_1_7 zf_1_8 zf_1_9 zf_1_10 GW887 GE887 NB843_887 NB887_843 NB844_887 NB887_844 NB845_887 NB887_845 NB866_887 NB887_866 NB871_887 NB887_871 NB876_887 NB887_876 NB881_887 NB887_881 hnb110 hnc110 hnb111 hnc111 hnb112 hnc112 hnb113 hnc113 hnb114 hnc114 hnb115 hnc115 hnb116 hnc116 Ao118 co118 HO852 HO856 HO860 HO864 HO870 HO875 HO880 HO885 zf_1_11 zf_1_12 zf_1_13 zf_1_14 zf_1_15 zf_1_16 zf_1_17 zf_1_18 zf_1_19 zf_1_20 zf_1_21 zf_1_22 zf_1_23 zf_1_24 zf_1_25 zf_1_26 zf_1_27 zf_1_28 zf_1_29 zf_1_30 zf_1_31 zf_1_32 zf_1_33 zf_1_34 zf_1_35 zf_1_36 zf_1_37 zf_1_38 zf_1_39 zf_1_40 zf_1_41 zf_1_42 zf_1_43 zf_1_44 zf_1_45 zf_1_46 zf_1_47 zf_1_48 zf_1_49 zf_1_50 zf_1_51 zf_1_52 zf_1_53 zf_1_54 zf_1_55 zf_1_56 zf_1_57 zf_1_58 zf_1_59 zf_1_60 zf_1_61 zf_1_62 zf_1_63 zf_1_64 zf_1_65 zf_1_66 zf_1_67 zf_1_68 zf_1_69 zf_1_70 zf_1_71 zf_1_72 zf_1_73 zf_1_74 zf_1_75 zf_1_76 zf_1_77 zf_1_78 zf_1_79 zf_1_80 zf_1_81 zf_1_82 zf_1_83 zf_1_84 zf_1_85 zf_1_86 zf_1_87 zf_1_88 zf_1_89 zf_1_90 zf_1_91 zf_1_92 zf_1_93 zf_1_94 zf_1_95 zf_1_96 zf_1_97 zf_1_98 zf_1_99 zf_1_100 zf_1_101 zf_1_102 zf_1_103 zf_1_104 zf_1_105 zf_1_106 zf_1_107 zf_1_108 zf_1_109 zf_1_110 zf_1_111 zf_1_112 zf_1_113 zf_1_114 zf_1_115 zf_1_116 zf_1_117 zf_1_118 zf_1_119 zf_1_120 zf_1_121 zf_1_122 zf_1_123 zf_1_124 zf_1_125 zf_1_126 zf_1_127 zf_1_128 zf_1_129 zf_1_130 zf_1_131 zf_1_132 kj46 HJ46 zf_1_133 t889 t890 A154 zf_1_134 A155 zf_1_135 t894 t895 A157 zf_1_136 A158 zf_1_137 t899 t900 A160 zf_1_138 A161 zf_1_139 t904 t905 A163 zf_1_140 t906 t907 A164 H t908 t909 A165 HC166 w167 zf_1_141 w168 Ao169 co169 zf_1_142 w170 zf_1_143 w171 zf_1_144 w172 Ao173 co173 zf_1_145 w174 zf_1_146 w175 zf_1_147 w176 Ao177 co177 zf_1_148 w178 hHeld hnb179 hnc179 hnb180 hnc180 hnb181 hnc181 hnb182 hnc182 hnb183 hnc183 hnb184 hnc184 hnb185 hnc185 hcz186_0 hcz186_1 hfz186_0 hfz186_1 w187 hnb188 hnc188 hnb189 hnc189 hnb190 hnc190 hnb191 hnc191 hnb192 hnc192 hnb193 hnc193 hcz194_0 hcz194_1 hfz194_0 hfz194_1 w195 hnb196 hnc196 hnb197 hnc197 hnb198 hnc198 hnb199 hnc199 hnb200 hnc200 hcz201_0 hcz201_1 hfz201_0 hfz201_1 w202 HO_867001 HO_872001 HO_877001 HO_882001 HO_888001 BK843 BK844 BK845 BK866 BK871 BK876 BK881 BK887 HO892 HO897 HO902 HB zf_1_149 zf_1_150 zf_1_151 zf_1_152 wc u20 u21 u22 u23 u24 u25 u26 u27 u28 u29 u30 u31 u32 u33 u34 u35 u36 u37 u38 u39 u40 u41 u42 u43 u44 u45 u46 u47 u48 u49 u50 u51 u52 u53 u54 u55 u56 u57 u58 u59 u60 u61 u62 u63 u64 u65 u66 u67 u68 u69 u70 u71 u72 u73 u74 u75 u76 u77 u78 u79 u80 u81 u82 u83 u84 u85 u86 u87 u88 u89 u90 u91 u92 u93 u94 u95 u96 u97 u98 u99 u100 u101 u102 u103 u104 u105 u106 u107 u108 u109 u110 u111 u112 u113 u114 u115 u116 u117 u118 u119 u120 u121 u122 u123 u124 u125 u126 u127 u128 u129 u130 u131 u132 u133 u134 u135 u136 u137 u138 u139 u140 u141 hcut
   exact hG1_.out
end Go.Proofs.Ythjfilmdobkmlaa.P
