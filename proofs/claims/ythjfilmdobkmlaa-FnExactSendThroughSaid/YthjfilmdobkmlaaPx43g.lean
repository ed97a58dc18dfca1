/- Functions of the program and what they tell, as the printing program wrote it. -/
import Derived.Test.YthjfilmdobkmlaaPx0
import Derived.Test.YthjfilmdobkmlaaPx35
import Derived.Test.YthjfilmdobkmlaaPx36
import Derived.Test.YthjfilmdobkmlaaPx37
import Derived.Test.YthjfilmdobkmlaaPx38
import Derived.Test.YthjfilmdobkmlaaPx39
import Derived.Test.YthjfilmdobkmlaaPx43f
namespace Go.Proofs.Ythjfilmdobkmlaa.P
open Go.Shelf Go.RowKit Go.Proofs.YthjfilmdobkmlaaW.PrintWords Go.Proofs.YthjfilmdobkmlaaW.PrintLast Go.Proofs.YthjfilmdobkmlaaW.PrintMore
attribute [local go_sem] max2_int min2_int max_two min_two max_three min_three max_four min_four
set_option linter.unusedVariables false
set_option linter.unusedSimpArgs false
set_option maxHeartbeats 8000000
set_option maxRecDepth 100000
theorem laws_FnExactSendThrough.G6 : laws_FnExactSendThrough.G5.1 := by
 intro k a0_0 A0_1 c0_1 l0_1 a1_0 A1_1 c1_1 l1_1 a2_0 A2_1 c2_1 l2_1 r w hu55 hu27 HR0_1 HC0_1 HR1_1 HC1_1 HR2_1 HC2_1 za_2_0 t846 A4 za_2_1 c5b0 t847 A13 za_2_2 c14b0 t848 A25 za_2_3 c26b0 t849 t850 A39 za_2_4 t853 t854 A40 za_2_5 t857 t858 A41 za_2_6 t861 t862 t865 A42 za_2_7 t867 t868 A43 za_2_8 t872 t873 A44 za_2_9 t877 t878 A45 zf_0_0 t882 t883 t886 A46 za_2_10 gb843 w48 GW843 GE843 gb844 w49 GW844 GE844 NB843_844 NB844_843 gb845 w50 GW845 GE845 NB843_845 NB845_843 NB844_845 NB845_844 hnb51 hnc51 hnb52 hnc52 hcz53_0 hcz53_1 hfz53_0 hfz53_1 w54 hnb55 hnc55 hcz56_0 hcz56_1 hfz56_0 hfz56_1 w57 hcz58_0 hcz58_1 hfz58_0 hfz58_1 w59 HT_ HW_ w60 za_2_11 v851 v855 v859 gb866 w69 hS_ GW866 GE866 NB843_866 NB866_843 NB844_866 NB866_844 NB845_866 NB866_845 za_2_12 Ao71 co71 hs70 hfs70 hns70_0 hns70_1 hns70_2 hms70_0 hms70_1 hms70_2 hs72 hfs72 hns72_0 hns72_1 hns72_2 hms72_0 hms72_1 hms72_2 hHeld hnb73 hnc73 w75 gb871 w76 GW871 GE871 NB843_871 NB871_843 NB844_871 NB871_844 NB845_871 NB871_845 NB866_871 NB871_866 hnb77 hnc77 hnb78 hnc78 hnb79 hnc79 hnb80 hnc80 Ao82 co82 hnb83 hnc83 w85 gb876 w86 GW876 GE876 NB843_876 NB876_843 NB844_876 NB876_844 NB845_876 NB876_845 NB866_876 NB876_866 NB871_876 NB876_871 hnb87 hnc87 hnb88 hnc88 hnb89 hnc89 hnb90 hnc90 hnb91 hnc91 Ao93 co93 hnb94 hnc94 w96 gb881 w97 GW881 GE881 NB843_881 NB881_843 NB844_881 NB881_844 NB845_881 NB881_845 NB866_881 NB881_866 NB871_881 NB881_871 NB876_881 NB881_876 hnb98 hnc98 hnb99 hnc99 hnb100 hnc100 hnb101 hnc101 hnb102 hnc102 hnb103 hnc103 Ao105 co105 w108 gb887 w109 zf_0_1 zf_0_2 zf_0_3 zf_0_4 zf_0_5 zf_0_6 zf_0_7 zf_0_8 zf_0_9 GW887 GE887 NB843_887 NB887_843 NB844_887 NB887_844 NB845_887 NB887_845 NB866_887 NB887_866 NB871_887 NB887_871 NB876_887 NB887_876 NB881_887 NB887_881 hnb110 hnc110 hnb111 hnc111 hnb112 hnc112 hnb113 hnc113 hnb114 hnc114 hnb115 hnc115 hnb116 hnc116 Ao118 co118 HO852 HO856 HO860 HO864 HO870 HO875 HO880 HO885 za_2_13 za_2_14 za_2_15 za_2_16 wc u20 u21 u22 u23 u24 u25 u26 u27 u28 u29 u30 u31 u32 u33 u34 u35 u36 u37 u38 u39 u40 u41 u42 u43 u44 u45 u46 u47 u48 u49 u50 u51 u52 u53 u54 u55 u56 u57 u58 u59 u60 u61 u62 u63 u64 u65 u67 u68 u69 u70 u71 u72 u73 u74 u75 u76 u77 u78 u79 u80 u81 u82 u83 u84 u85 u86 u87 u88 u89 u90 u91 u92 u93 u94 u95 u96 u97 u98 u99 u100 u101 u102 u103 u104 u105 u106 u107 u108 u109 u110 u111 u112 u113 u114 u115 u116 u117 u118 u119 u120 u121 u122 u123 u124 u125 u126 u127 u128 u129 u130 u131 u132 u133 u134 u135 u136 u137 u138 u139 u140 u141 HO_867001 HO_872001 HO_877001 HO_882001 HO_888001 BK843 BK844 BK845 BK866 BK871 BK876 BK881 BK887 HB kj46 HJ46 zf_0_10 t889 t890 A154 zf_0_11 A155 zf_0_12 t894 t895 A157 zf_0_13 A158 zf_0_14 t899 t900 A160 zf_0_15 t903 A161 H c162
 replace c162 := Bool.eq_false_iff.mpr c162
 subst c162
 rw [if_neg (show ¬ (false = true) by decide)] at H
 obtain rfl := Option.some.inj H
 try go_wp2
 have n0_ := Aq.mk (Kd.RqD HO_867001.out)
 have n1_ := Aq.mk (Kd.RqD HO_872001.out)
 have n2_ := Aq.mk (Kd.RqD HO_877001.out)
 have n3_ := Aq.mk (Kd.RqD HO_882001.out)
 have n4_ := Aq.mk (Kd.RqD HO_888001.out)
 have n5_ := Aq.mk (kQD BK843.out)
 have n6_ := Aq.mk (kQD BK844.out)
 have n7_ := Aq.mk (kQD BK845.out)
 have n8_ := Aq.mk (kQD BK866.out)
 have n9_ := Aq.mk (kQD BK871.out)
 have n10_ := Aq.mk (kQD BK876.out)
 have n11_ := Aq.mk (kQD BK881.out)
 have n12_ := Aq.mk (kQD BK887.out)
 have n13_ := Aq.mk (bQ1 HB.out)
 clear HO_867001
 clear HO_872001
 clear HO_877001
 clear HO_882001
 clear HO_888001
 clear BK843
 clear BK844
 clear BK845
 clear BK866
 clear BK871
 clear BK876
 clear BK881
 clear BK887
 clear HB
 have HO_867001 := n0_
 have HO_872001 := n1_
 have HO_877001 := n2_
 have HO_882001 := n3_
 have HO_888001 := n4_
 have BK843 := n5_
 have BK844 := n6_
 have BK845 := n7_
 have BK866 := n8_
 have BK871 := n9_
 have BK876 := n10_
 have BK881 := n11_
 have BK887 := n12_
 have HB := n13_
 clear n0_ n1_ n2_ n3_ n4_ n5_ n6_ n7_ n8_ n9_ n10_ n11_ n12_ n13_
 refine start_ (n := 5) (S := fun w' => w'.cell? ⟨gb871, 0, none⟩ = some (.int .i64 t867) ∧ w'.cell? ⟨gb871, 1, none⟩ = some (.slice Ao82 t868.length co82) ∧ w'.cell? ⟨gb843, 0, none⟩ = some (.int .i64 a0_0) ∧ w'.cell? ⟨gb843, 1, none⟩ = some (.slice A0_1 l0_1.length c0_1)) (ds := []) #[false, false, false, false, false] (by kernel_rfl) rfl rfl ⟨(kQC BK871.out 0).trans rfl, (kQC BK871.out 1).trans rfl, (kQC BK843.out 0).trans rfl, (kQC BK843.out 1).trans rfl⟩ (fun hHeld => ?_)
 generalize wc.drew = w366 at HO_867001 HO_872001 HO_877001 HO_882001 HO_888001 BK843 BK844 BK845 BK866 BK871 BK876 BK881 BK887 HB hHeld ⊢
 refine tT4k 0 67 (bm 5 1) ?_
 refine tT4k 1 68 (bm 5 3) ?_
 refine one_ (i := 2) (N := some 69) (bm 5 7) rfl rfl (by kernel_rfl) (by decide) (fun K hK => ?_)
 refine goes_ Try.func33 (by kernel_rfl) rfl #[.agg #[.int .i64 a0_0, .slice A0_1 l0_1.length c0_1]] (by rfl) rfl rfl tL ?_
 with_reducible refine (laws_toMatrix.calls kj46 a0_0 _ _ l0_1 t889 t890 _ ?s1 ?s2 A154.out).mono ?_
 (case s1 => exact tC ((Kd.C_below HR0_1.out HB.out)))
 (case s2 => exact HC0_1.out)
 rintro e w367 ⟨v891, rfl, ho0, hb⟩
 refine ⟨_, rfl, ?_⟩
 have n0_ := Aq.mk (Kd.R_elder' (tR HO_867001.out) (Kd.R_base ho0) hb)
 have n1_ := Aq.mk (Kd.R_elder' (tR HO_872001.out) (Kd.R_base ho0) hb)
 have n2_ := Aq.mk (Kd.R_elder' (tR HO_877001.out) (Kd.R_base ho0) hb)
 have n3_ := Aq.mk (Kd.R_elder' (tR HO_882001.out) (Kd.R_base ho0) hb)
 have n4_ := Aq.mk (Kd.R_elder' (tR HO_888001.out) (Kd.R_base ho0) hb)
 have n5_ := Aq.mk (Kd.R_lower (Kd.R_new' (Kd.R_new' (Kd.R_new' (Kd.R_new' (Kd.R_new' ho0 (Kd.R_lt (tR HO_867001.out))) (Kd.R_lt (tR HO_872001.out))) (Kd.R_lt (tR HO_877001.out))) (Kd.R_lt (tR HO_882001.out))) (Kd.R_lt (tR HO_888001.out))) (bQZ tB))
 have n6_ := Aq.mk (tQ BK843.out hb)
 have n7_ := Aq.mk (tQ BK844.out hb)
 have n8_ := Aq.mk (tQ BK845.out hb)
 have n9_ := Aq.mk (tQ BK866.out hb)
 have n10_ := Aq.mk (tQ BK871.out hb)
 have n11_ := Aq.mk (tQ BK876.out hb)
 have n12_ := Aq.mk (tQ BK881.out hb)
 have n13_ := Aq.mk (tQ BK887.out hb)
 have n14_ := Aq.mk (bQT tB hb)
 clear HO_867001
 clear HO_872001
 clear HO_877001
 clear HO_882001
 clear HO_888001
 clear BK843
 clear BK844
 clear BK845
 clear BK866
 clear BK871
 clear BK876
 clear BK881
 clear BK887
 clear HB
 have HO_867001 := n0_
 have HO_872001 := n1_
 have HO_877001 := n2_
 have HO_882001 := n3_
 have HO_888001 := n4_
 have HO892 := n5_
 have BK843 := n6_
 have BK844 := n7_
 have BK845 := n8_
 have BK866 := n9_
 have BK871 := n10_
 have BK876 := n11_
 have BK881 := n12_
 have BK887 := n13_
 have HB := n14_
 clear n0_ n1_ n2_ n3_ n4_ n5_ n6_ n7_ n8_ n9_ n10_ n11_ n12_ n13_ n14_
 (try clear hb)
 (try clear hb2)
 (try clear hk)
 (try clear hi)
 (try clear ho0)
 obtain ⟨Ao368, co368, eo368⟩ := Kd.R_slice HO892.out
 (first | subst eo368 | (injection eo368 with f1_ f2_ f3_; have f4_ := f1_.symm; have f5_ := f3_.symm; clear f1_ f2_ f3_; subst f4_; subst f5_))
 refine hK.out _ _ ⟨(kQC BK871.out 0).trans rfl, (kQC BK871.out 1).trans rfl, (kQC BK843.out 0).trans rfl, (kQC BK843.out 1).trans rfl⟩ (fun hHeld => ?_)
 clear hK K
 refine tN 69 ?_
 refine one_ (i := 3) (N := some 70) (bm 5 15) rfl rfl (by kernel_rfl) (by decide) (fun K hK => ?_)
 refine goes_ Try.func35 (by kernel_rfl) rfl #[.agg #[.int .i64 t867, .slice Ao82 t868.length co82], .agg #[.int .i64 t889, .slice Ao368 t890.length co368]] (by rfl) rfl rfl tL ?_
 with_reducible refine (laws_eqMatrix.calls kj46 t867 _ _ t868 t889 _ _ t890 true _ ?s1 ?s2 ?s3 ?s4 A155.out).mono ?_
 (case s1 => exact tC ((Kd.R_reads' HO_872001.out).2.2))
 (case s2 => exact (Kd.R_reads' HO_872001.out).2.1)
 (case s3 => exact tC ((Kd.R_reads' HO892.out).2.2))
 (case s4 => exact (Kd.R_reads' HO892.out).2.1)
 rintro e w369 ⟨rfl, hb⟩
 refine ⟨_, rfl, ?_⟩
 have n0_ := Aq.mk (Kd.R_below (tR HO_867001.out) hb)
 have n1_ := Aq.mk (Kd.R_below (tR HO_872001.out) hb)
 have n2_ := Aq.mk (Kd.R_below (tR HO_877001.out) hb)
 have n3_ := Aq.mk (Kd.R_below (tR HO_882001.out) hb)
 have n4_ := Aq.mk (Kd.R_below (tR HO_888001.out) hb)
 have n5_ := Aq.mk (Kd.R_below (tR HO892.out) hb)
 have n6_ := Aq.mk (tQ BK843.out hb)
 have n7_ := Aq.mk (tQ BK844.out hb)
 have n8_ := Aq.mk (tQ BK845.out hb)
 have n9_ := Aq.mk (tQ BK866.out hb)
 have n10_ := Aq.mk (tQ BK871.out hb)
 have n11_ := Aq.mk (tQ BK876.out hb)
 have n12_ := Aq.mk (tQ BK881.out hb)
 have n13_ := Aq.mk (tQ BK887.out hb)
 have n14_ := Aq.mk (bQT tB hb)
 clear HO_867001
 clear HO_872001
 clear HO_877001
 clear HO_882001
 clear HO_888001
 clear HO892
 clear BK843
 clear BK844
 clear BK845
 clear BK866
 clear BK871
 clear BK876
 clear BK881
 clear BK887
 clear HB
 have HO_867001 := n0_
 have HO_872001 := n1_
 have HO_877001 := n2_
 have HO_882001 := n3_
 have HO_888001 := n4_
 have HO892 := n5_
 have BK843 := n6_
 have BK844 := n7_
 have BK845 := n8_
 have BK866 := n9_
 have BK871 := n10_
 have BK876 := n11_
 have BK881 := n12_
 have BK887 := n13_
 have HB := n14_
 clear n0_ n1_ n2_ n3_ n4_ n5_ n6_ n7_ n8_ n9_ n10_ n11_ n12_ n13_ n14_
 (try clear hb)
 (try clear hb2)
 (try clear hk)
 (try clear hi)
 refine hK.out _ _ ⟨(kQC BK871.out 0).trans rfl, (kQC BK871.out 1).trans rfl, (kQC BK843.out 0).trans rfl, (kQC BK843.out 1).trans rfl⟩ (fun hHeld => ?_)
 clear hK K
 refine tN 70 ?_
 refine tP0k 4 71 (bm 5 31) ?_
 refine done_ (by kernel_rfl) ?_
 try go_wp2
 have n0_ := Aq.mk (Kd.RqD HO_867001.out)
 have n1_ := Aq.mk (Kd.RqD HO_872001.out)
 have n2_ := Aq.mk (Kd.RqD HO_877001.out)
 have n3_ := Aq.mk (Kd.RqD HO_882001.out)
 have n4_ := Aq.mk (Kd.RqD HO_888001.out)
 have n5_ := Aq.mk (Kd.RqD HO892.out)
 have n6_ := Aq.mk (kQD BK843.out)
 have n7_ := Aq.mk (kQD BK844.out)
 have n8_ := Aq.mk (kQD BK845.out)
 have n9_ := Aq.mk (kQD BK866.out)
 have n10_ := Aq.mk (kQD BK871.out)
 have n11_ := Aq.mk (kQD BK876.out)
 have n12_ := Aq.mk (kQD BK881.out)
 have n13_ := Aq.mk (kQD BK887.out)
 have n14_ := Aq.mk (bQ1 HB.out)
 clear HO_867001
 clear HO_872001
 clear HO_877001
 clear HO_882001
 clear HO_888001
 clear HO892
 clear BK843
 clear BK844
 clear BK845
 clear BK866
 clear BK871
 clear BK876
 clear BK881
 clear BK887
 clear HB
 have HO_867001 := n0_
 have HO_872001 := n1_
 have HO_877001 := n2_
 have HO_882001 := n3_
 have HO_888001 := n4_
 have HO892 := n5_
 have BK843 := n6_
 have BK844 := n7_
 have BK845 := n8_
 have BK866 := n9_
 have BK871 := n10_
 have BK876 := n11_
 have BK881 := n12_
 have BK887 := n13_
 have HB := n14_
 clear n0_ n1_ n2_ n3_ n4_ n5_ n6_ n7_ n8_ n9_ n10_ n11_ n12_ n13_ n14_
 refine start_ (n := 5) (S := fun w' => w'.cell? ⟨gb876, 0, none⟩ = some (.int .i64 t872) ∧ w'.cell? ⟨gb876, 1, none⟩ = some (.slice Ao93 t873.length co93) ∧ w'.cell? ⟨gb844, 0, none⟩ = some (.int .i64 a1_0) ∧ w'.cell? ⟨gb844, 1, none⟩ = some (.slice A1_1 l1_1.length c1_1)) (ds := []) #[false, false, false, false, false] (by kernel_rfl) rfl rfl ⟨(kQC BK876.out 0).trans rfl, (kQC BK876.out 1).trans rfl, (kQC BK844.out 0).trans rfl, (kQC BK844.out 1).trans rfl⟩ (fun hHeld => ?_)
 generalize w369.drew = w370 at HO_867001 HO_872001 HO_877001 HO_882001 HO_888001 HO892 BK843 BK844 BK845 BK866 BK871 BK876 BK881 BK887 HB hHeld ⊢
 refine tT4k 0 72 (bm 5 1) ?_
 refine tT4k 1 73 (bm 5 3) ?_
 refine one_ (i := 2) (N := some 74) (bm 5 7) rfl rfl (by kernel_rfl) (by decide) (fun K hK => ?_)
 refine goes_ Try.func33 (by kernel_rfl) rfl #[.agg #[.int .i64 a1_0, .slice A1_1 l1_1.length c1_1]] (by rfl) rfl rfl tL ?_
 with_reducible refine (laws_toMatrix.calls kj46 a1_0 _ _ l1_1 t894 t895 _ ?s1 ?s2 A157.out).mono ?_
 (case s1 => exact tC ((Kd.C_below HR1_1.out HB.out)))
 (case s2 => exact HC1_1.out)
 rintro e w371 ⟨v896, rfl, ho0, hb⟩
 refine ⟨_, rfl, ?_⟩
 have n0_ := Aq.mk (Kd.R_elder' (tR HO_867001.out) (Kd.R_base ho0) hb)
 have n1_ := Aq.mk (Kd.R_elder' (tR HO_872001.out) (Kd.R_base ho0) hb)
 have n2_ := Aq.mk (Kd.R_elder' (tR HO_877001.out) (Kd.R_base ho0) hb)
 have n3_ := Aq.mk (Kd.R_elder' (tR HO_882001.out) (Kd.R_base ho0) hb)
 have n4_ := Aq.mk (Kd.R_elder' (tR HO_888001.out) (Kd.R_base ho0) hb)
 have n5_ := Aq.mk (Kd.R_elder' (tR HO892.out) (Kd.R_base ho0) hb)
 have n6_ := Aq.mk (Kd.R_lower (Kd.R_new' (Kd.R_new' (Kd.R_new' (Kd.R_new' (Kd.R_new' (Kd.R_new' ho0 (Kd.R_lt (tR HO_867001.out))) (Kd.R_lt (tR HO_872001.out))) (Kd.R_lt (tR HO_877001.out))) (Kd.R_lt (tR HO_882001.out))) (Kd.R_lt (tR HO_888001.out))) (Kd.R_lt (tR HO892.out))) (bQZ tB))
 have n7_ := Aq.mk (tQ BK843.out hb)
 have n8_ := Aq.mk (tQ BK844.out hb)
 have n9_ := Aq.mk (tQ BK845.out hb)
 have n10_ := Aq.mk (tQ BK866.out hb)
 have n11_ := Aq.mk (tQ BK871.out hb)
 have n12_ := Aq.mk (tQ BK876.out hb)
 have n13_ := Aq.mk (tQ BK881.out hb)
 have n14_ := Aq.mk (tQ BK887.out hb)
 have n15_ := Aq.mk (bQT tB hb)
 clear HO_867001
 clear HO_872001
 clear HO_877001
 clear HO_882001
 clear HO_888001
 clear HO892
 clear BK843
 clear BK844
 clear BK845
 clear BK866
 clear BK871
 clear BK876
 clear BK881
 clear BK887
 clear HB
 have HO_867001 := n0_
 have HO_872001 := n1_
 have HO_877001 := n2_
 have HO_882001 := n3_
 have HO_888001 := n4_
 have HO892 := n5_
 have HO897 := n6_
 have BK843 := n7_
 have BK844 := n8_
 have BK845 := n9_
 have BK866 := n10_
 have BK871 := n11_
 have BK876 := n12_
 have BK881 := n13_
 have BK887 := n14_
 have HB := n15_
 clear n0_ n1_ n2_ n3_ n4_ n5_ n6_ n7_ n8_ n9_ n10_ n11_ n12_ n13_ n14_ n15_
 (try clear hb)
 (try clear hb2)
 (try clear hk)
 (try clear hi)
 (try clear ho0)
 obtain ⟨Ao372, co372, eo372⟩ := Kd.R_slice HO897.out
 (first | subst eo372 | (injection eo372 with f1_ f2_ f3_; have f4_ := f1_.symm; have f5_ := f3_.symm; clear f1_ f2_ f3_; subst f4_; subst f5_))
 refine hK.out _ _ ⟨(kQC BK876.out 0).trans rfl, (kQC BK876.out 1).trans rfl, (kQC BK844.out 0).trans rfl, (kQC BK844.out 1).trans rfl⟩ (fun hHeld => ?_)
 clear hK K
 refine tN 74 ?_
 refine one_ (i := 3) (N := some 75) (bm 5 15) rfl rfl (by kernel_rfl) (by decide) (fun K hK => ?_)
 refine goes_ Try.func35 (by kernel_rfl) rfl #[.agg #[.int .i64 t872, .slice Ao93 t873.length co93], .agg #[.int .i64 t894, .slice Ao372 t895.length co372]] (by rfl) rfl rfl tL ?_
 with_reducible refine (laws_eqMatrix.calls kj46 t872 _ _ t873 t894 _ _ t895 true _ ?s1 ?s2 ?s3 ?s4 A158.out).mono ?_
 (case s1 => exact tC ((Kd.R_reads' HO_877001.out).2.2))
 (case s2 => exact (Kd.R_reads' HO_877001.out).2.1)
 (case s3 => exact tC ((Kd.R_reads' HO897.out).2.2))
 (case s4 => exact (Kd.R_reads' HO897.out).2.1)
 rintro e w373 ⟨rfl, hb⟩
 refine ⟨_, rfl, ?_⟩
 have n0_ := Aq.mk (Kd.R_below (tR HO_867001.out) hb)
 have n1_ := Aq.mk (Kd.R_below (tR HO_872001.out) hb)
 have n2_ := Aq.mk (Kd.R_below (tR HO_877001.out) hb)
 have n3_ := Aq.mk (Kd.R_below (tR HO_882001.out) hb)
 have n4_ := Aq.mk (Kd.R_below (tR HO_888001.out) hb)
 have n5_ := Aq.mk (Kd.R_below (tR HO892.out) hb)
 have n6_ := Aq.mk (Kd.R_below (tR HO897.out) hb)
 have n7_ := Aq.mk (tQ BK843.out hb)
 have n8_ := Aq.mk (tQ BK844.out hb)
 have n9_ := Aq.mk (tQ BK845.out hb)
 have n10_ := Aq.mk (tQ BK866.out hb)
 have n11_ := Aq.mk (tQ BK871.out hb)
 have n12_ := Aq.mk (tQ BK876.out hb)
 have n13_ := Aq.mk (tQ BK881.out hb)
 have n14_ := Aq.mk (tQ BK887.out hb)
 have n15_ := Aq.mk (bQT tB hb)
 clear HO_867001
 clear HO_872001
 clear HO_877001
 clear HO_882001
 clear HO_888001
 clear HO892
 clear HO897
 clear BK843
 clear BK844
 clear BK845
 clear BK866
 clear BK871
 clear BK876
 clear BK881
 clear BK887
 clear HB
 have HO_867001 := n0_
 have HO_872001 := n1_
 have HO_877001 := n2_
 have HO_882001 := n3_
 have HO_888001 := n4_
 have HO892 := n5_
 have HO897 := n6_
 have BK843 := n7_
 have BK844 := n8_
 have BK845 := n9_
 have BK866 := n10_
 have BK871 := n11_
 have BK876 := n12_
 have BK881 := n13_
 have BK887 := n14_
 have HB := n15_
 clear n0_ n1_ n2_ n3_ n4_ n5_ n6_ n7_ n8_ n9_ n10_ n11_ n12_ n13_ n14_ n15_
 (try clear hb)
 (try clear hb2)
 (try clear hk)
 (try clear hi)
 refine hK.out _ _ ⟨(kQC BK876.out 0).trans rfl, (kQC BK876.out 1).trans rfl, (kQC BK844.out 0).trans rfl, (kQC BK844.out 1).trans rfl⟩ (fun hHeld => ?_)
 clear hK K
 refine tN 75 ?_
 refine tP0k 4 76 (bm 5 31) ?_
 refine done_ (by kernel_rfl) ?_
 try go_wp2
 have n0_ := Aq.mk (Kd.RqD HO_867001.out)
 have n1_ := Aq.mk (Kd.RqD HO_872001.out)
 have n2_ := Aq.mk (Kd.RqD HO_877001.out)
 have n3_ := Aq.mk (Kd.RqD HO_882001.out)
 have n4_ := Aq.mk (Kd.RqD HO_888001.out)
 have n5_ := Aq.mk (Kd.RqD HO892.out)
 have n6_ := Aq.mk (Kd.RqD HO897.out)
 have n7_ := Aq.mk (kQD BK843.out)
 have n8_ := Aq.mk (kQD BK844.out)
 have n9_ := Aq.mk (kQD BK845.out)
 have n10_ := Aq.mk (kQD BK866.out)
 have n11_ := Aq.mk (kQD BK871.out)
 have n12_ := Aq.mk (kQD BK876.out)
 have n13_ := Aq.mk (kQD BK881.out)
 have n14_ := Aq.mk (kQD BK887.out)
 have n15_ := Aq.mk (bQ1 HB.out)
 clear HO_867001
 clear HO_872001
 clear HO_877001
 clear HO_882001
 clear HO_888001
 clear HO892
 clear HO897
 clear BK843
 clear BK844
 clear BK845
 clear BK866
 clear BK871
 clear BK876
 clear BK881
 clear BK887
 clear HB
 have HO_867001 := n0_
 have HO_872001 := n1_
 have HO_877001 := n2_
 have HO_882001 := n3_
 have HO_888001 := n4_
 have HO892 := n5_
 have HO897 := n6_
 have BK843 := n7_
 have BK844 := n8_
 have BK845 := n9_
 have BK866 := n10_
 have BK871 := n11_
 have BK876 := n12_
 have BK881 := n13_
 have BK887 := n14_
 have HB := n15_
 clear n0_ n1_ n2_ n3_ n4_ n5_ n6_ n7_ n8_ n9_ n10_ n11_ n12_ n13_ n14_ n15_
 refine start_ (n := 5) (S := fun w' => w'.cell? ⟨gb881, 0, none⟩ = some (.int .i64 t877) ∧ w'.cell? ⟨gb881, 1, none⟩ = some (.slice Ao105 t878.length co105) ∧ w'.cell? ⟨gb845, 0, none⟩ = some (.int .i64 a2_0) ∧ w'.cell? ⟨gb845, 1, none⟩ = some (.slice A2_1 l2_1.length c2_1)) (ds := []) #[false, false, false, false, false] (by kernel_rfl) rfl rfl ⟨(kQC BK881.out 0).trans rfl, (kQC BK881.out 1).trans rfl, (kQC BK845.out 0).trans rfl, (kQC BK845.out 1).trans rfl⟩ (fun hHeld => ?_)
 generalize w373.drew = w374 at HO_867001 HO_872001 HO_877001 HO_882001 HO_888001 HO892 HO897 BK843 BK844 BK845 BK866 BK871 BK876 BK881 BK887 HB hHeld ⊢
 refine tT4k 0 77 (bm 5 1) ?_
 refine tT4k 1 78 (bm 5 3) ?_
 refine one_ (i := 2) (N := some 79) (bm 5 7) rfl rfl (by kernel_rfl) (by decide) (fun K hK => ?_)
 refine goes_ Try.func33 (by kernel_rfl) rfl #[.agg #[.int .i64 a2_0, .slice A2_1 l2_1.length c2_1]] (by rfl) rfl rfl tL ?_
 with_reducible refine (laws_toMatrix.calls kj46 a2_0 _ _ l2_1 t899 t900 _ ?s1 ?s2 A160.out).mono ?_
 (case s1 => exact tC ((Kd.C_below HR2_1.out HB.out)))
 (case s2 => exact HC2_1.out)
 rintro e w375 ⟨v901, rfl, ho0, hb⟩
 refine ⟨_, rfl, ?_⟩
 have n0_ := Aq.mk (Kd.R_elder' (tR HO_867001.out) (Kd.R_base ho0) hb)
 have n1_ := Aq.mk (Kd.R_elder' (tR HO_872001.out) (Kd.R_base ho0) hb)
 have n2_ := Aq.mk (Kd.R_elder' (tR HO_877001.out) (Kd.R_base ho0) hb)
 have n3_ := Aq.mk (Kd.R_elder' (tR HO_882001.out) (Kd.R_base ho0) hb)
 have n4_ := Aq.mk (Kd.R_elder' (tR HO_888001.out) (Kd.R_base ho0) hb)
 have n5_ := Aq.mk (Kd.R_elder' (tR HO892.out) (Kd.R_base ho0) hb)
 have n6_ := Aq.mk (Kd.R_elder' (tR HO897.out) (Kd.R_base ho0) hb)
 have n7_ := Aq.mk (Kd.R_lower (Kd.R_new' (Kd.R_new' (Kd.R_new' (Kd.R_new' (Kd.R_new' (Kd.R_new' (Kd.R_new' ho0 (Kd.R_lt (tR HO_867001.out))) (Kd.R_lt (tR HO_872001.out))) (Kd.R_lt (tR HO_877001.out))) (Kd.R_lt (tR HO_882001.out))) (Kd.R_lt (tR HO_888001.out))) (Kd.R_lt (tR HO892.out))) (Kd.R_lt (tR HO897.out))) (bQZ tB))
 have n8_ := Aq.mk (tQ BK843.out hb)
 have n9_ := Aq.mk (tQ BK844.out hb)
 have n10_ := Aq.mk (tQ BK845.out hb)
 have n11_ := Aq.mk (tQ BK866.out hb)
 have n12_ := Aq.mk (tQ BK871.out hb)
 have n13_ := Aq.mk (tQ BK876.out hb)
 have n14_ := Aq.mk (tQ BK881.out hb)
 have n15_ := Aq.mk (tQ BK887.out hb)
 have n16_ := Aq.mk (bQT tB hb)
 clear HO_867001
 clear HO_872001
 clear HO_877001
 clear HO_882001
 clear HO_888001
 clear HO892
 clear HO897
 clear BK843
 clear BK844
 clear BK845
 clear BK866
 clear BK871
 clear BK876
 clear BK881
 clear BK887
 clear HB
 have HO_867001 := n0_
 have HO_872001 := n1_
 have HO_877001 := n2_
 have HO_882001 := n3_
 have HO_888001 := n4_
 have HO892 := n5_
 have HO897 := n6_
 have HO902 := n7_
 have BK843 := n8_
 have BK844 := n9_
 have BK845 := n10_
 have BK866 := n11_
 have BK871 := n12_
 have BK876 := n13_
 have BK881 := n14_
 have BK887 := n15_
 have HB := n16_
 clear n0_ n1_ n2_ n3_ n4_ n5_ n6_ n7_ n8_ n9_ n10_ n11_ n12_ n13_ n14_ n15_ n16_
 (try clear hb)
 (try clear hb2)
 (try clear hk)
 (try clear hi)
 (try clear ho0)
 obtain ⟨Ao376, co376, eo376⟩ := Kd.R_slice HO902.out
 (first | subst eo376 | (injection eo376 with f1_ f2_ f3_; have f4_ := f1_.symm; have f5_ := f3_.symm; clear f1_ f2_ f3_; subst f4_; subst f5_))
 refine hK.out _ _ ⟨(kQC BK881.out 0).trans rfl, (kQC BK881.out 1).trans rfl, (kQC BK845.out 0).trans rfl, (kQC BK845.out 1).trans rfl⟩ (fun hHeld => ?_)
 clear hK K
 refine tN 79 ?_
 refine one_ (i := 3) (N := some 80) (bm 5 15) rfl rfl (by kernel_rfl) (by decide) (fun K hK => ?_)
 refine goes_ Try.func35 (by kernel_rfl) rfl #[.agg #[.int .i64 t877, .slice Ao105 t878.length co105], .agg #[.int .i64 t899, .slice Ao376 t900.length co376]] (by rfl) rfl rfl tL ?_
 with_reducible refine (laws_eqMatrix.calls kj46 t877 _ _ t878 t899 _ _ t900 false _ ?s1 ?s2 ?s3 ?s4 A161.out).mono ?_
 (case s1 => exact tC ((Kd.R_reads' HO_882001.out).2.2))
 (case s2 => exact (Kd.R_reads' HO_882001.out).2.1)
 (case s3 => exact tC ((Kd.R_reads' HO902.out).2.2))
 (case s4 => exact (Kd.R_reads' HO902.out).2.1)
 rintro e w377 ⟨rfl, hb⟩
 refine ⟨_, rfl, ?_⟩
 have n0_ := Aq.mk (Kd.R_below (tR HO_867001.out) hb)
 have n1_ := Aq.mk (Kd.R_below (tR HO_872001.out) hb)
 have n2_ := Aq.mk (Kd.R_below (tR HO_877001.out) hb)
 have n3_ := Aq.mk (Kd.R_below (tR HO_882001.out) hb)
 have n4_ := Aq.mk (Kd.R_below (tR HO_888001.out) hb)
 have n5_ := Aq.mk (Kd.R_below (tR HO892.out) hb)
 have n6_ := Aq.mk (Kd.R_below (tR HO897.out) hb)
 have n7_ := Aq.mk (Kd.R_below (tR HO902.out) hb)
 have n8_ := Aq.mk (tQ BK843.out hb)
 have n9_ := Aq.mk (tQ BK844.out hb)
 have n10_ := Aq.mk (tQ BK845.out hb)
 have n11_ := Aq.mk (tQ BK866.out hb)
 have n12_ := Aq.mk (tQ BK871.out hb)
 have n13_ := Aq.mk (tQ BK876.out hb)
 have n14_ := Aq.mk (tQ BK881.out hb)
 have n15_ := Aq.mk (tQ BK887.out hb)
 have n16_ := Aq.mk (bQT tB hb)
 clear HO_867001
 clear HO_872001
 clear HO_877001
 clear HO_882001
 clear HO_888001
 clear HO892
 clear HO897
 clear HO902
 clear BK843
 clear BK844
 clear BK845
 clear BK866
 clear BK871
 clear BK876
 clear BK881
 clear BK887
 clear HB
 have HO_867001 := n0_
 have HO_872001 := n1_
 have HO_877001 := n2_
 have HO_882001 := n3_
 have HO_888001 := n4_
 have HO892 := n5_
 have HO897 := n6_
 have HO902 := n7_
 have BK843 := n8_
 have BK844 := n9_
 have BK845 := n10_
 have BK866 := n11_
 have BK871 := n12_
 have BK876 := n13_
 have BK881 := n14_
 have BK887 := n15_
 have HB := n16_
 clear n0_ n1_ n2_ n3_ n4_ n5_ n6_ n7_ n8_ n9_ n10_ n11_ n12_ n13_ n14_ n15_ n16_
 (try clear hb)
 (try clear hb2)
 (try clear hk)
 (try clear hi)
 refine hK.out _ _ ⟨(kQC BK881.out 0).trans rfl, (kQC BK881.out 1).trans rfl, (kQC BK845.out 0).trans rfl, (kQC BK845.out 1).trans rfl⟩ (fun hHeld => ?_)
 clear hK K
 refine tN 80 ?_
 refine tP0k 4 81 (bm 5 31) ?_
 refine done_ (by kernel_rfl) ?_
 try go_wp2
 go_ret
 exact ⟨tE, tB⟩
end Go.Proofs.Ythjfilmdobkmlaa.P
