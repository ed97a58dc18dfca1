/- Functions of the program and what they tell, as the printing program wrote it. -/
import Derived.Test.YthjfilmdobkmlaaPx0
import Derived.Test.YthjfilmdobkmlaaPx35
import Derived.Test.YthjfilmdobkmlaaPx36
import Derived.Test.YthjfilmdobkmlaaPx37
import Derived.Test.YthjfilmdobkmlaaPx38
import Derived.Test.YthjfilmdobkmlaaPx39
import Derived.Test.YthjfilmdobkmlaaPx43h
namespace Go.Proofs.Ythjfilmdobkmlaa.P
open Go.Shelf Go.RowKit Go.Proofs.YthjfilmdobkmlaaW.PrintWords Go.Proofs.YthjfilmdobkmlaaW.PrintLast Go.Proofs.YthjfilmdobkmlaaW.PrintMore
attribute [local go_sem] max2_int min2_int max_two min_two max_three min_three max_four min_four
set_option linter.unusedVariables false
set_option linter.unusedSimpArgs false
set_option maxHeartbeats 8000000
set_option maxRecDepth 100000
theorem laws_FnExactSendThrough.G15 : laws_FnExactSendThrough.G7.2.1 := by
 intro k a0_0 A0_1 c0_1 l0_1 a1_0 A1_1 c1_1 l1_1 a2_0 A2_1 c2_1 l2_1 r w hu55 hu27 HR0_1 HC0_1 HR1_1 HC1_1 HR2_1 HC2_1 za_2_0 t846 A4 za_2_1 c5b0 t847 A13 za_2_2 c14b0 t848 A25 za_2_3 c26b0 t849 t850 A39 za_2_4 t853 t854 A40 za_2_5 t857 t858 A41 za_2_6 t861 t862 t865 A42 za_2_7 t867 t868 A43 za_2_8 t872 t873 A44 za_2_9 t877 t878 A45 zf_1_0 t882 t883 t886 A46 za_2_10 gb843 w48 GW843 GE843 gb844 w49 GW844 GE844 NB843_844 NB844_843 gb845 w50 GW845 GE845 NB843_845 NB845_843 NB844_845 NB845_844 hnb51 hnc51 hnb52 hnc52 hcz53_0 hcz53_1 hfz53_0 hfz53_1 w54 hnb55 hnc55 hcz56_0 hcz56_1 hfz56_0 hfz56_1 w57 hcz58_0 hcz58_1 hfz58_0 hfz58_1 w59 zh_1_0 zh_1_1 w60 za_2_11 v851 v855 v859 gb866 w69 zh_1_2 GW866 GE866 NB843_866 NB866_843 NB844_866 NB866_844 NB845_866 NB866_845 za_2_12 Ao71 co71 hs70 hfs70 hns70_0 hns70_1 hns70_2 hms70_0 hms70_1 hms70_2 hs72 hfs72 hns72_0 hns72_1 hns72_2 hms72_0 hms72_1 hms72_2 zf_1_1 hnb73 hnc73 w75 gb871 w76 GW871 GE871 NB843_871 NB871_843 NB844_871 NB871_844 NB845_871 NB871_845 NB866_871 NB871_866 hnb77 hnc77 hnb78 hnc78 hnb79 hnc79 hnb80 hnc80 Ao82 co82 hnb83 hnc83 w85 gb876 w86 GW876 GE876 NB843_876 NB876_843 NB844_876 NB876_844 NB845_876 NB876_845 NB866_876 NB876_866 NB871_876 NB876_871 hnb87 hnc87 hnb88 hnc88 hnb89 hnc89 hnb90 hnc90 hnb91 hnc91 Ao93 co93 hnb94 hnc94 w96 gb881 w97 GW881 GE881 NB843_881 NB881_843 NB844_881 NB881_844 NB845_881 NB881_845 NB866_881 NB881_866 NB871_881 NB881_871 NB876_881 NB881_876 hnb98 hnc98 hnb99 hnc99 hnb100 hnc100 hnb101 hnc101 hnb102 hnc102 hnb103 hnc103 Ao105 co105 w108 gb887 w109 zf_1_2 zf_1_3 zf_1_4 zf_1_5 zf_1_6 zf_1_7 zf_1_8 zf_1_9 zf_1_10 GW887 GE887 NB843_887 NB887_843 NB844_887 NB887_844 NB845_887 NB887_845 NB866_887 NB887_866 NB871_887 NB887_871 NB876_887 NB887_876 NB881_887 NB887_881 hnb110 hnc110 hnb111 hnc111 hnb112 hnc112 hnb113 hnc113 hnb114 hnc114 hnb115 hnc115 hnb116 hnc116 Ao118 co118 HO852 HO856 HO860 HO864 HO870 HO875 HO880 HO885 zf_1_11 zf_1_12 zf_1_13 zf_1_14 zf_1_15 zf_1_16 zf_1_17 zf_1_18 zf_1_19 zf_1_20 zf_1_21 zf_1_22 zf_1_23 zf_1_24 zf_1_25 zf_1_26 zf_1_27 zf_1_28 zf_1_29 zf_1_30 zf_1_31 zf_1_32 zf_1_33 zf_1_34 zf_1_35 zf_1_36 zf_1_37 zf_1_38 zf_1_39 zf_1_40 zf_1_41 zf_1_42 zf_1_43 zf_1_44 zf_1_45 zf_1_46 zf_1_47 zf_1_48 zf_1_49 zf_1_50 zf_1_51 zf_1_52 zf_1_53 zf_1_54 zf_1_55 zf_1_56 zf_1_57 zf_1_58 zf_1_59 zf_1_60 zf_1_61 zf_1_62 zf_1_63 zf_1_64 zf_1_65 zf_1_66 zf_1_67 zf_1_68 zf_1_69 zf_1_70 zf_1_71 zf_1_72 zf_1_73 zf_1_74 zf_1_75 zf_1_76 zf_1_77 zf_1_78 zf_1_79 zf_1_80 zf_1_81 zf_1_82 zf_1_83 zf_1_84 zf_1_85 zf_1_86 zf_1_87 zf_1_88 zf_1_89 zf_1_90 zf_1_91 zf_1_92 zf_1_93 zf_1_94 zf_1_95 zf_1_96 zf_1_97 zf_1_98 zf_1_99 zf_1_100 zf_1_101 zf_1_102 zf_1_103 zf_1_104 zf_1_105 zf_1_106 zf_1_107 zf_1_108 zf_1_109 zf_1_110 zf_1_111 zf_1_112 zf_1_113 zf_1_114 zf_1_115 zf_1_116 zf_1_117 zf_1_118 zf_1_119 zf_1_120 zf_1_121 zf_1_122 zf_1_123 zf_1_124 zf_1_125 zf_1_126 zf_1_127 zf_1_128 zf_1_129 zf_1_130 zf_1_131 zf_1_132 kj46 HJ46 zf_1_133 t889 t890 A154 zf_1_134 A155 zf_1_135 t894 t895 A157 zf_1_136 A158 zf_1_137 t899 t900 A160 zf_1_138 A161 zf_1_139 t904 t905 A163 zf_1_140 t906 t907 A164 zh_1_3 t908 t909 A165 w167 zf_1_141 w168 Ao169 co169 zf_1_142 w170 zf_1_143 w171 zf_1_144 w172 Ao173 co173 zf_1_145 w174 zf_1_146 w175 zf_1_147 w176 Ao177 co177 zf_1_148 w178 zh_1_4 hnb179 hnc179 hnb180 hnc180 hnb181 hnc181 hnb182 hnc182 hnb183 hnc183 hnb184 hnc184 hnb185 hnc185 w187 hnb188 hnc188 hnb189 hnc189 hnb190 hnc190 hnb191 hnc191 hnb192 hnc192 hnb193 hnc193 w195 hnb196 hnc196 hnb197 hnc197 hnb198 hnc198 hnb199 hnc199 hnb200 hnc200 w202 zh_1_5 zh_1_6 zh_1_7 zh_1_8 zh_1_9 zh_1_10 zh_1_11 zh_1_12 zh_1_13 zh_1_14 zh_1_15 zh_1_16 zh_1_17 HO892 HO897 HO902 zh_1_18 wc u20 u21 u22 u23 u24 u25 u26 u27 u28 u29 u30 u31 u32 u33 u34 u35 u36 u37 u38 u39 u40 u41 u42 u43 u44 u45 u46 u47 u48 u49 u50 u51 u52 u53 u54 u55 u56 u57 u58 u59 u60 u61 u62 u63 u64 u65 u66 u67 u68 u69 u70 u71 u72 u73 u74 u75 u76 u77 u78 u79 u80 u81 u82 u83 u84 u85 u86 u87 u88 u89 u90 u91 u92 u93 u94 u95 u96 u97 u98 u99 u100 u101 u102 u104 u105 u106 u107 u108 u109 u110 u111 u112 u113 u114 u115 u116 u117 u118 u119 u120 u121 u122 u123 u124 u125 u126 u127 u128 u129 u130 u131 u132 u133 u134 u135 u136 u137 u138 u139 u140 u141 hl872001_165 hl877001_165 hl882001_165 kj165 HJ165 zh_1_19 t911 t912 A239 zh_1_20 t913 A240 zh_1_21 c241b0 c253b0 c253b1 t914 t915 A254 zh_1_22 t918 t919 A255 zh_1_23 t922 t923 A256 H t926 t927 t930 A257 HC258 hnb259 hnc259 hnb260 hnc260 hnb261 hnc261 hnb262 hnc262 hnb263 hnc263 hnb264 hnc264 hnb265 hnc265 hcz266_0 hcz266_1 hfz266_0 hfz266_1 w267 hcz268_0 hcz268_1 hfz268_0 hfz268_1 w269 zh_1_24 zh_1_25 HT_ HW_ w270 zh_1_26 v916 v920 v924 gb931 w279 hS_ BK843 BK844 BK845 BK866 BK871 BK876 BK881 BK887 BK931 GW931 GE931 NB843_931 NB931_843 NB844_931 NB931_844 NB845_931 NB931_845 NB866_931 NB931_866 NB871_931 NB931_871 NB876_931 NB931_876 NB881_931 NB931_881 NB887_931 NB931_887 HB hHeld Ao281 co281 HO917 HO921 HO925 HO929 HO_867001 HO_872001 HO_877001 HO_882001 HO_888001
 refine one_ (i := 11) (N := none) #[true, true, true, true, true, true, true, true, true, true, true, true, false] rfl rfl (one_of HT_.out (by kernel_rfl)) (by decide) (fun K hK => ?_)
 have hs280 : w279.cell? ⟨gb931, 0, none⟩ = some (.int .i64 0) := (kQC BK931.out 0).trans rfl
 have hfs280 := kQF BK931.out 0
 have hns280_0 := NB843_931.out
 have hns280_1 := NB844_931.out
 have hns280_2 := NB845_931.out
 have hns280_3 := NB866_931.out
 have hns280_4 := NB871_931.out
 have hns280_5 := NB876_931.out
 have hns280_6 := NB881_931.out
 have hns280_7 := NB887_931.out
 have hms280_0 := NB931_843.out
 have hms280_1 := NB931_844.out
 have hms280_2 := NB931_845.out
 have hms280_3 := NB931_866.out
 have hms280_4 := NB931_871.out
 have hms280_5 := NB931_876.out
 have hms280_6 := NB931_881.out
 have hms280_7 := NB931_887.out
 have hs282 : w279.cell? ⟨gb931, 1, none⟩ = some (.slice none 0 0) := (kQC BK931.out 1).trans rfl
 have hfs282 := kQF BK931.out 1
 have hns282_0 := NB843_931.out
 have hns282_1 := NB844_931.out
 have hns282_2 := NB845_931.out
 have hns282_3 := NB866_931.out
 have hns282_4 := NB871_931.out
 have hns282_5 := NB876_931.out
 have hns282_6 := NB881_931.out
 have hns282_7 := NB887_931.out
 have hms282_0 := NB931_843.out
 have hms282_1 := NB931_844.out
 have hms282_2 := NB931_845.out
 have hms282_3 := NB931_866.out
 have hms282_4 := NB931_871.out
 have hms282_5 := NB931_876.out
 have hms282_6 := NB931_881.out
 have hms282_7 := NB931_887.out
 refine skip_ (w1 := ?_) (by rfl) rfl ?_ ?_
 rotate_left
 ·go_simp
  rfl
 refine hK.out _ _ ⟨((cell_far (p := ⟨gb931, _, none⟩) NB843_931.out _).trans (((cell_far (p := ⟨gb931, _, none⟩) NB843_931.out _).trans (hHeld.1)))), ((cell_far (p := ⟨gb931, _, none⟩) NB843_931.out _).trans (((cell_far (p := ⟨gb931, _, none⟩) NB843_931.out _).trans (hHeld.2.1)))), ((cell_far (p := ⟨gb931, _, none⟩) NB844_931.out _).trans (((cell_far (p := ⟨gb931, _, none⟩) NB844_931.out _).trans (hHeld.2.2.1)))), ((cell_far (p := ⟨gb931, _, none⟩) NB844_931.out _).trans (((cell_far (p := ⟨gb931, _, none⟩) NB844_931.out _).trans (hHeld.2.2.2.1)))), ((cell_far (p := ⟨gb931, _, none⟩) NB845_931.out _).trans (((cell_far (p := ⟨gb931, _, none⟩) NB845_931.out _).trans (hHeld.2.2.2.2.1)))), ((cell_far (p := ⟨gb931, _, none⟩) NB845_931.out _).trans (((cell_far (p := ⟨gb931, _, none⟩) NB845_931.out _).trans (hHeld.2.2.2.2.2))))⟩ (fun hHeld => ?_)
 clear hK K
 refine tP0 12 19 (bm 13 8191) ?_
 refine done_ (done_of HT_.out (by kernel_rfl)) ?_
 go_upto_region 39 with (fail)
 go_cut [133] (fun v133 wc => ∃ (kq : Nat) (x133_257 : Bool), v133 = .bool x133_257 ∧ Aq (laws_FnExactSendThrough.j2 kq t911 x133_257 t882 t912 = some r) ∧ Aq (kq ≤ kj165) ∧ Aq (Kd.R (Kd.int .i64) 2 wc w.heap.size (fun k_ => some k_ ≠ ((.slice Ao82 t905.length co82) : Value).ownBlock ∧ some k_ ≠ ((.slice Ao93 t907.length co93) : Value).ownBlock ∧ some k_ ≠ ((.slice Ao105 t909.length co105) : Value).ownBlock ∧ some k_ ≠ ((.slice Ao118 t883.length co118) : Value).ownBlock ∧ some k_ ≠ ((.slice Ao281 t927.length co281) : Value).ownBlock) (.slice Ao71 t862.length co71) t862) ∧ Aq (Kd.R (Kd.int .i64) 2 wc w.heap.size (fun k_ => some k_ ≠ ((.slice Ao71 t862.length co71) : Value).ownBlock ∧ some k_ ≠ ((.slice Ao93 t907.length co93) : Value).ownBlock ∧ some k_ ≠ ((.slice Ao105 t909.length co105) : Value).ownBlock ∧ some k_ ≠ ((.slice Ao118 t883.length co118) : Value).ownBlock ∧ some k_ ≠ ((.slice Ao281 t927.length co281) : Value).ownBlock) (.slice Ao82 t905.length co82) t905) ∧ Aq (Kd.R (Kd.int .i64) 2 wc w.heap.size (fun k_ => some k_ ≠ ((.slice Ao71 t862.length co71) : Value).ownBlock ∧ some k_ ≠ ((.slice Ao82 t905.length co82) : Value).ownBlock ∧ some k_ ≠ ((.slice Ao105 t909.length co105) : Value).ownBlock ∧ some k_ ≠ ((.slice Ao118 t883.length co118) : Value).ownBlock ∧ some k_ ≠ ((.slice Ao281 t927.length co281) : Value).ownBlock) (.slice Ao93 t907.length co93) t907) ∧ Aq (Kd.R (Kd.int .i64) 2 wc w.heap.size (fun k_ => some k_ ≠ ((.slice Ao71 t862.length co71) : Value).ownBlock ∧ some k_ ≠ ((.slice Ao82 t905.length co82) : Value).ownBlock ∧ some k_ ≠ ((.slice Ao93 t907.length co93) : Value).ownBlock ∧ some k_ ≠ ((.slice Ao118 t883.length co118) : Value).ownBlock ∧ some k_ ≠ ((.slice Ao281 t927.length co281) : Value).ownBlock) (.slice Ao105 t909.length co105) t909) ∧ Aq (Kd.R (Kd.int .i64) 2 wc w.heap.size (fun k_ => some k_ ≠ ((.slice Ao71 t862.length co71) : Value).ownBlock ∧ some k_ ≠ ((.slice Ao82 t905.length co82) : Value).ownBlock ∧ some k_ ≠ ((.slice Ao93 t907.length co93) : Value).ownBlock ∧ some k_ ≠ ((.slice Ao105 t909.length co105) : Value).ownBlock ∧ some k_ ≠ ((.slice Ao281 t927.length co281) : Value).ownBlock) (.slice Ao118 t883.length co118) t912) ∧ Aq (Kd.R (Kd.int .i64) 2 wc w.heap.size (fun k_ => some k_ ≠ ((.slice Ao71 t862.length co71) : Value).ownBlock ∧ some k_ ≠ ((.slice Ao82 t905.length co82) : Value).ownBlock ∧ some k_ ≠ ((.slice Ao93 t907.length co93) : Value).ownBlock ∧ some k_ ≠ ((.slice Ao105 t909.length co105) : Value).ownBlock ∧ some k_ ≠ ((.slice Ao118 t883.length co118) : Value).ownBlock) (.slice Ao281 t927.length co281) t927) ∧ Aq (wc.heap[gb843]? = some (.cells #[.int .i64 a0_0, (.slice A0_1 l0_1.length c0_1)] 55 (0, 0))) ∧ Aq (wc.heap[gb844]? = some (.cells #[.int .i64 a1_0, (.slice A1_1 l1_1.length c1_1)] 55 (0, 0))) ∧ Aq (wc.heap[gb845]? = some (.cells #[.int .i64 a2_0, (.slice A2_1 l2_1.length c2_1)] 55 (0, 0))) ∧ Aq (wc.heap[gb866]? = some (.cells #[.int .i64 t861, (.slice Ao71 t862.length co71)] 27 (0, 0))) ∧ Aq (wc.heap[gb871]? = some (.cells #[.int .i64 t867, (.slice Ao82 t905.length co82)] 27 (0, 0))) ∧ Aq (wc.heap[gb876]? = some (.cells #[.int .i64 t872, (.slice Ao93 t907.length co93)] 27 (0, 0))) ∧ Aq (wc.heap[gb881]? = some (.cells #[.int .i64 t877, (.slice Ao105 t909.length co105)] 27 (0, 0))) ∧ Aq (wc.heap[gb887]? = some (.cells #[.int .i64 t882, (.slice Ao118 t883.length co118)] 27 (0, 0))) ∧ Aq (wc.heap[gb931]? = some (.cells #[.int .i64 t926, (.slice Ao281 t927.length co281)] 27 (0, 0))) ∧ Aq (Below w.heap.size w wc))
 case first =>
  have H := HC258.out
  clear HC258
  obtain ⟨t932, A283, H⟩ := qBd H
  by_cases c284 : t932 = true
  ·subst c284
   rw [if_pos rfl] at H
   replace H' := Aq.mk H
   clear H
   have hnb285 := NB931_843.out
   have hnc285 := NB843_931.out
   have hnb286 := NB931_844.out
   have hnc286 := NB844_931.out
   have hnb287 := NB931_845.out
   have hnc287 := NB845_931.out
   have hnb288 := NB931_866.out
   have hnc288 := NB866_931.out
   have hnb289 := NB931_871.out
   have hnc289 := NB871_931.out
   have hnb290 := NB931_876.out
   have hnc290 := NB876_931.out
   have hnb291 := NB931_881.out
   have hnc291 := NB881_931.out
   have hnb292 := NB931_887.out
   have hnc292 := NB887_931.out
   have hcz293_0 : w279.cell? ⟨gb931, 0, none⟩ = some (.int .i64 0) := (kQC BK931.out 0).trans rfl
   have hcz293_1 : w279.cell? ⟨gb931, 1, none⟩ = some (.slice none 0 0) := (kQC BK931.out 1).trans rfl
   have hfz293_0 := kQF BK931.out 0
   have hfz293_1 := kQF BK931.out 1
   have hnb294 := NB866_843.out
   have hnc294 := NB843_866.out
   have hnb295 := NB866_844.out
   have hnc295 := NB844_866.out
   have hnb296 := NB866_845.out
   have hnc296 := NB845_866.out
   have hnb297 := NB866_871.out
   have hnc297 := NB871_866.out
   have hnb298 := NB866_876.out
   have hnc298 := NB876_866.out
   have hnb299 := NB866_881.out
   have hnc299 := NB881_866.out
   have hnb300 := NB866_887.out
   have hnc300 := NB887_866.out
   have hcz301_0 : w279.cell? ⟨gb866, 0, none⟩ = some (.int .i64 t861) := (kQC BK866.out 0).trans rfl
   have hcz301_1 : w279.cell? ⟨gb866, 1, none⟩ = some (.slice Ao71 t862.length co71) := (kQC BK866.out 1).trans rfl
   have hfz301_0 := kQF BK866.out 0
   have hfz301_1 := kQF BK866.out 1
   go_wp2_with (first | ((with_reducible refine gQc (f := 35) rfl ?_); refine goesL_ (some 127) rfl rfl Try.func35 (by kernel_rfl) rfl #[.agg #[.int .i64 t926, .slice Ao281 t927.length co281], .agg #[.int .i64 t861, .slice Ao71 t862.length co71]] rfl tL ?_; (with_reducible refine (laws_eqMatrix.calls kj165 t926 _ _ t927 t861 _ _ t862 true _ ?s1 ?s2 ?s3 ?s4 A283.out).mono ?_); (case s1 => refine (Kd.R_reads' (e := 2) (base := w.heap.size) (ok := fun k_ => (some k_ ≠ (v916 : Value).ownBlock ∧ (some k_ ≠ (v920 : Value).ownBlock ∧ (some k_ ≠ (v924 : Value).ownBlock ∧ (some k_ ≠ (.slice Ao71 t862.length co71 : Value).ownBlock ∧ (some k_ ≠ (.slice Ao82 t905.length co82 : Value).ownBlock ∧ (some k_ ≠ (.slice Ao93 t907.length co93 : Value).ownBlock ∧ (some k_ ≠ (.slice Ao105 t909.length co105 : Value).ownBlock ∧ some k_ ≠ (.slice Ao118 t883.length co118 : Value).ownBlock)))))))) (n := t927.length) (c := co281) ?_).2.2; exact (by (with_reducible repeat (first | apply Kd.RqA | apply Kd.RqN | apply Kd.RqD)); exact (Kd.R_mono (Kd.R_far (p := ⟨gb931, 1, none⟩) (Kd.R_far (p := ⟨gb931, 0, none⟩) (Kd.R_types HO929.out BK931.out (by decide)) (fun _ hk => hk.2) (.int .i64 t926)) (fun _ hk => hk.2) (.slice Ao281 t927.length co281)) (fun _ h_ => h_.1)))); (case s2 => exact (Kd.R_reads' HO929.out).2.1); (case s3 => refine (Kd.R_reads' (e := 2) (base := w.heap.size) (ok := fun k_ => (some k_ ≠ (v916 : Value).ownBlock ∧ (some k_ ≠ (v920 : Value).ownBlock ∧ (some k_ ≠ (v924 : Value).ownBlock ∧ (some k_ ≠ (.slice Ao281 t927.length co281 : Value).ownBlock ∧ (some k_ ≠ (.slice Ao82 t905.length co82 : Value).ownBlock ∧ (some k_ ≠ (.slice Ao93 t907.length co93 : Value).ownBlock ∧ (some k_ ≠ (.slice Ao105 t909.length co105 : Value).ownBlock ∧ some k_ ≠ (.slice Ao118 t883.length co118 : Value).ownBlock)))))))) (n := t862.length) (c := co71) ?_).2.2; exact (by (with_reducible repeat (first | apply Kd.RqA | apply Kd.RqN | apply Kd.RqD)); exact (Kd.R_mono (Kd.R_far (p := ⟨gb931, 1, none⟩) (Kd.R_far (p := ⟨gb931, 0, none⟩) (Kd.R_types HO_867001.out BK931.out (by decide)) (fun _ hk => hk.2) (.int .i64 t926)) (fun _ hk => hk.2) (.slice Ao281 t927.length co281)) (fun _ h_ => h_.1)))); (case s4 => exact (Kd.R_reads' HO_867001.out).2.1); rintro e w302 ⟨rfl, hb⟩; refine ⟨_, rfl, ?_⟩; refine qM19 (Kd.R_below (by (with_reducible repeat (first | apply Kd.RqA | apply Kd.RqN | apply Kd.RqD)); exact (Kd.R_mono (Kd.R_far (p := ⟨gb931, 1, none⟩) (Kd.R_far (p := ⟨gb931, 0, none⟩) (Kd.R_types HO_867001.out BK931.out (by decide)) (fun _ hk => hk.2) (.int .i64 t926)) (fun _ hk => hk.2) (.slice Ao281 t927.length co281)) (fun _ h_ => h_.1))) hb) (Kd.R_below (by (with_reducible repeat (first | apply Kd.RqA | apply Kd.RqN | apply Kd.RqD)); exact (Kd.R_mono (Kd.R_far (p := ⟨gb931, 1, none⟩) (Kd.R_far (p := ⟨gb931, 0, none⟩) (Kd.R_types HO_872001.out BK931.out (by decide)) (fun _ hk => hk.2) (.int .i64 t926)) (fun _ hk => hk.2) (.slice Ao281 t927.length co281)) (fun _ h_ => h_.1))) hb) (Kd.R_below (by (with_reducible repeat (first | apply Kd.RqA | apply Kd.RqN | apply Kd.RqD)); exact (Kd.R_mono (Kd.R_far (p := ⟨gb931, 1, none⟩) (Kd.R_far (p := ⟨gb931, 0, none⟩) (Kd.R_types HO_877001.out BK931.out (by decide)) (fun _ hk => hk.2) (.int .i64 t926)) (fun _ hk => hk.2) (.slice Ao281 t927.length co281)) (fun _ h_ => h_.1))) hb) (Kd.R_below (by (with_reducible repeat (first | apply Kd.RqA | apply Kd.RqN | apply Kd.RqD)); exact (Kd.R_mono (Kd.R_far (p := ⟨gb931, 1, none⟩) (Kd.R_far (p := ⟨gb931, 0, none⟩) (Kd.R_types HO_882001.out BK931.out (by decide)) (fun _ hk => hk.2) (.int .i64 t926)) (fun _ hk => hk.2) (.slice Ao281 t927.length co281)) (fun _ h_ => h_.1))) hb) (Kd.R_below (by (with_reducible repeat (first | apply Kd.RqA | apply Kd.RqN | apply Kd.RqD)); exact (Kd.R_mono (Kd.R_far (p := ⟨gb931, 1, none⟩) (Kd.R_far (p := ⟨gb931, 0, none⟩) (Kd.R_types HO_888001.out BK931.out (by decide)) (fun _ hk => hk.2) (.int .i64 t926)) (fun _ hk => hk.2) (.slice Ao281 t927.length co281)) (fun _ h_ => h_.1))) hb) (Kd.R_below (by (with_reducible repeat (first | apply Kd.RqA | apply Kd.RqN | apply Kd.RqD)); exact (Kd.R_mono (Kd.R_far (p := ⟨gb931, 1, none⟩) (Kd.R_far (p := ⟨gb931, 0, none⟩) (Kd.R_types HO917.out BK931.out (by decide)) (fun _ hk => hk.2) (.int .i64 t926)) (fun _ hk => hk.2) (.slice Ao281 t927.length co281)) (fun _ h_ => h_.1))) hb) (Kd.R_below (by (with_reducible repeat (first | apply Kd.RqA | apply Kd.RqN | apply Kd.RqD)); exact (Kd.R_mono (Kd.R_far (p := ⟨gb931, 1, none⟩) (Kd.R_far (p := ⟨gb931, 0, none⟩) (Kd.R_types HO921.out BK931.out (by decide)) (fun _ hk => hk.2) (.int .i64 t926)) (fun _ hk => hk.2) (.slice Ao281 t927.length co281)) (fun _ h_ => h_.1))) hb) (Kd.R_below (by (with_reducible repeat (first | apply Kd.RqA | apply Kd.RqN | apply Kd.RqD)); exact (Kd.R_mono (Kd.R_far (p := ⟨gb931, 1, none⟩) (Kd.R_far (p := ⟨gb931, 0, none⟩) (Kd.R_types HO925.out BK931.out (by decide)) (fun _ hk => hk.2) (.int .i64 t926)) (fun _ hk => hk.2) (.slice Ao281 t927.length co281)) (fun _ h_ => h_.1))) hb) (Kd.R_below (by (with_reducible repeat (first | apply Kd.RqA | apply Kd.RqN | apply Kd.RqD)); exact (Kd.R_mono (Kd.R_far (p := ⟨gb931, 1, none⟩) (Kd.R_far (p := ⟨gb931, 0, none⟩) (Kd.R_types HO929.out BK931.out (by decide)) (fun _ hk => hk.2) (.int .i64 t926)) (fun _ hk => hk.2) (.slice Ao281 t927.length co281)) (fun _ h_ => h_.1))) hb) (kQB (g := gb843) (o := .cells #[.int .i64 a0_0, .slice A0_1 l0_1.length c0_1] 55 (0, 0)) (by (with_reducible repeat (first | refine kQN ?_ _ | refine kQD ?_ | refine kQA ?_ _)); refine kQR ?_ NB843_931.out _; (with_reducible repeat (first | refine kQN ?_ _ | refine kQD ?_ | refine kQA ?_ _)); refine kQR ?_ NB843_931.out _; (with_reducible repeat (first | refine kQN ?_ _ | refine kQD ?_ | refine kQA ?_ _)); exact BK843.out) hb) (kQB (g := gb844) (o := .cells #[.int .i64 a1_0, .slice A1_1 l1_1.length c1_1] 55 (0, 0)) (by (with_reducible repeat (first | refine kQN ?_ _ | refine kQD ?_ | refine kQA ?_ _)); refine kQR ?_ NB844_931.out _; (with_reducible repeat (first | refine kQN ?_ _ | refine kQD ?_ | refine kQA ?_ _)); refine kQR ?_ NB844_931.out _; (with_reducible repeat (first | refine kQN ?_ _ | refine kQD ?_ | refine kQA ?_ _)); exact BK844.out) hb) (kQB (g := gb845) (o := .cells #[.int .i64 a2_0, .slice A2_1 l2_1.length c2_1] 55 (0, 0)) (by (with_reducible repeat (first | refine kQN ?_ _ | refine kQD ?_ | refine kQA ?_ _)); refine kQR ?_ NB845_931.out _; (with_reducible repeat (first | refine kQN ?_ _ | refine kQD ?_ | refine kQA ?_ _)); refine kQR ?_ NB845_931.out _; (with_reducible repeat (first | refine kQN ?_ _ | refine kQD ?_ | refine kQA ?_ _)); exact BK845.out) hb) (kQB (g := gb866) (o := .cells #[.int .i64 t861, .slice Ao71 t862.length co71] 27 (0, 0)) (by (with_reducible repeat (first | refine kQN ?_ _ | refine kQD ?_ | refine kQA ?_ _)); refine kQR ?_ NB866_931.out _; (with_reducible repeat (first | refine kQN ?_ _ | refine kQD ?_ | refine kQA ?_ _)); refine kQR ?_ NB866_931.out _; (with_reducible repeat (first | refine kQN ?_ _ | refine kQD ?_ | refine kQA ?_ _)); exact BK866.out) hb) (kQB (g := gb871) (o := .cells #[.int .i64 t867, .slice Ao82 t905.length co82] 27 (0, 0)) (by (with_reducible repeat (first | refine kQN ?_ _ | refine kQD ?_ | refine kQA ?_ _)); refine kQR ?_ NB871_931.out _; (with_reducible repeat (first | refine kQN ?_ _ | refine kQD ?_ | refine kQA ?_ _)); refine kQR ?_ NB871_931.out _; (with_reducible repeat (first | refine kQN ?_ _ | refine kQD ?_ | refine kQA ?_ _)); exact BK871.out) hb) (kQB (g := gb876) (o := .cells #[.int .i64 t872, .slice Ao93 t907.length co93] 27 (0, 0)) (by (with_reducible repeat (first | refine kQN ?_ _ | refine kQD ?_ | refine kQA ?_ _)); refine kQR ?_ NB876_931.out _; (with_reducible repeat (first | refine kQN ?_ _ | refine kQD ?_ | refine kQA ?_ _)); refine kQR ?_ NB876_931.out _; (with_reducible repeat (first | refine kQN ?_ _ | refine kQD ?_ | refine kQA ?_ _)); exact BK876.out) hb) (kQB (g := gb881) (o := .cells #[.int .i64 t877, .slice Ao105 t909.length co105] 27 (0, 0)) (by (with_reducible repeat (first | refine kQN ?_ _ | refine kQD ?_ | refine kQA ?_ _)); refine kQR ?_ NB881_931.out _; (with_reducible repeat (first | refine kQN ?_ _ | refine kQD ?_ | refine kQA ?_ _)); refine kQR ?_ NB881_931.out _; (with_reducible repeat (first | refine kQN ?_ _ | refine kQD ?_ | refine kQA ?_ _)); exact BK881.out) hb) (kQB (g := gb887) (o := .cells #[.int .i64 t882, .slice Ao118 t883.length co118] 27 (0, 0)) (by (with_reducible repeat (first | refine kQN ?_ _ | refine kQD ?_ | refine kQA ?_ _)); refine kQR ?_ NB887_931.out _; (with_reducible repeat (first | refine kQN ?_ _ | refine kQD ?_ | refine kQA ?_ _)); refine kQR ?_ NB887_931.out _; (with_reducible repeat (first | refine kQN ?_ _ | refine kQD ?_ | refine kQA ?_ _)); exact BK887.out) hb) (kQB (g := gb931) (o := .cells #[.int .i64 t926, .slice Ao281 t927.length co281] 27 (0, 0)) (by (with_reducible repeat (first | refine kQN ?_ _ | refine kQD ?_ | refine kQA ?_ _)); refine kQP (cs := #[.int .i64 t926, .slice none 0 0]) ?_ 1 _ rfl; (with_reducible repeat (first | refine kQN ?_ _ | refine kQD ?_ | refine kQA ?_ _)); refine kQP (cs := #[.int .i64 0, .slice none 0 0]) ?_ 0 _ rfl; (with_reducible repeat (first | refine kQN ?_ _ | refine kQD ?_ | refine kQA ?_ _)); exact BK931.out) hb) (bQT tB hb) ?_; clear HO_867001 HO_872001 HO_877001 HO_882001 HO_888001 HO917 HO921 HO925 HO929 BK843 BK844 BK845 BK866 BK871 BK876 BK881 BK887 BK931 HB; intro HO_867001 HO_872001 HO_877001 HO_882001 HO_888001 HO917 HO921 HO925 HO929 BK843 BK844 BK845 BK866 BK871 BK876 BK881 BK887 BK931 HB; (try clear hb); (try clear hb2); (try clear hk); (try clear hi)))
   go_meet
   case rel => exact ⟨_, ((t930 != t865)), tS, H', ⟨by have := HJ46.out; have := HJ165.out; first | omega | exact Nat.le_refl _⟩, ⟨by (try simp only [hl872001_165]); (try simp only [hl877001_165]); (try simp only [hl882001_165]); (with_reducible repeat (first | apply Kd.RqA | apply Kd.RqN | apply Kd.RqD)); exact Kd.R_mono HO_867001.out (fun _ hk => ⟨hk.2.2.2.2.1, ⟨hk.2.2.2.2.2.1, ⟨hk.2.2.2.2.2.2.1, ⟨hk.2.2.2.2.2.2.2, hk.2.2.2.1⟩⟩⟩⟩)⟩, ⟨by (try simp only [hl872001_165]); (try simp only [hl877001_165]); (try simp only [hl882001_165]); (with_reducible repeat (first | apply Kd.RqA | apply Kd.RqN | apply Kd.RqD)); exact Kd.R_mono HO_872001.out (fun _ hk => ⟨hk.2.2.2.2.1, ⟨hk.2.2.2.2.2.1, ⟨hk.2.2.2.2.2.2.1, ⟨hk.2.2.2.2.2.2.2, hk.2.2.2.1⟩⟩⟩⟩)⟩, ⟨by (try simp only [hl872001_165]); (try simp only [hl877001_165]); (try simp only [hl882001_165]); (with_reducible repeat (first | apply Kd.RqA | apply Kd.RqN | apply Kd.RqD)); exact Kd.R_mono HO_877001.out (fun _ hk => ⟨hk.2.2.2.2.1, ⟨hk.2.2.2.2.2.1, ⟨hk.2.2.2.2.2.2.1, ⟨hk.2.2.2.2.2.2.2, hk.2.2.2.1⟩⟩⟩⟩)⟩, ⟨by (try simp only [hl872001_165]); (try simp only [hl877001_165]); (try simp only [hl882001_165]); (with_reducible repeat (first | apply Kd.RqA | apply Kd.RqN | apply Kd.RqD)); exact Kd.R_mono HO_882001.out (fun _ hk => ⟨hk.2.2.2.2.1, ⟨hk.2.2.2.2.2.1, ⟨hk.2.2.2.2.2.2.1, ⟨hk.2.2.2.2.2.2.2, hk.2.2.2.1⟩⟩⟩⟩)⟩, ⟨by (try simp only [hl872001_165]); (try simp only [hl877001_165]); (try simp only [hl882001_165]); (with_reducible repeat (first | apply Kd.RqA | apply Kd.RqN | apply Kd.RqD)); exact Kd.R_mono HO_888001.out (fun _ hk => ⟨hk.2.2.2.2.1, ⟨hk.2.2.2.2.2.1, ⟨hk.2.2.2.2.2.2.1, ⟨hk.2.2.2.2.2.2.2, hk.2.2.2.1⟩⟩⟩⟩)⟩, ⟨by (try simp only [hl872001_165]); (try simp only [hl877001_165]); (try simp only [hl882001_165]); (with_reducible repeat (first | apply Kd.RqA | apply Kd.RqN | apply Kd.RqD)); exact Kd.R_mono HO929.out (fun _ hk => ⟨hk.2.2.2.1, ⟨hk.2.2.2.2.1, ⟨hk.2.2.2.2.2.1, ⟨hk.2.2.2.2.2.2.1, hk.2.2.2.2.2.2.2⟩⟩⟩⟩)⟩, ⟨by (try simp only [hl872001_165]); (try simp only [hl877001_165]); (try simp only [hl882001_165]); (with_reducible repeat (first | refine kQN ?_ _ | refine kQD ?_ | refine kQA ?_ _)); exact BK843.out⟩, ⟨by (try simp only [hl872001_165]); (try simp only [hl877001_165]); (try simp only [hl882001_165]); (with_reducible repeat (first | refine kQN ?_ _ | refine kQD ?_ | refine kQA ?_ _)); exact BK844.out⟩, ⟨by (try simp only [hl872001_165]); (try simp only [hl877001_165]); (try simp only [hl882001_165]); (with_reducible repeat (first | refine kQN ?_ _ | refine kQD ?_ | refine kQA ?_ _)); exact BK845.out⟩, ⟨by (try simp only [hl872001_165]); (try simp only [hl877001_165]); (try simp only [hl882001_165]); (with_reducible repeat (first | refine kQN ?_ _ | refine kQD ?_ | refine kQA ?_ _)); exact BK866.out⟩, ⟨by (try simp only [hl872001_165]); (try simp only [hl877001_165]); (try simp only [hl882001_165]); (with_reducible repeat (first | refine kQN ?_ _ | refine kQD ?_ | refine kQA ?_ _)); exact BK871.out⟩, ⟨by (try simp only [hl872001_165]); (try simp only [hl877001_165]); (try simp only [hl882001_165]); (with_reducible repeat (first | refine kQN ?_ _ | refine kQD ?_ | refine kQA ?_ _)); exact BK876.out⟩, ⟨by (try simp only [hl872001_165]); (try simp only [hl877001_165]); (try simp only [hl882001_165]); (with_reducible repeat (first | refine kQN ?_ _ | refine kQD ?_ | refine kQA ?_ _)); exact BK881.out⟩, ⟨by (try simp only [hl872001_165]); (try simp only [hl877001_165]); (try simp only [hl882001_165]); (with_reducible repeat (first | refine kQN ?_ _ | refine kQD ?_ | refine kQA ?_ _)); exact BK887.out⟩, ⟨by (try simp only [hl872001_165]); (try simp only [hl877001_165]); (try simp only [hl882001_165]); (with_reducible repeat (first | refine kQN ?_ _ | refine kQD ?_ | refine kQA ?_ _)); exact BK931.out⟩, ⟨tB⟩⟩
  replace c284 := Bool.eq_false_iff.mpr c284
  subst c284
  rw [if_neg (show ¬ (false = true) by decide)] at H
  replace H' := Aq.mk H
  clear H
  have hnb303 := NB931_843.out
  have hnc303 := NB843_931.out
  have hnb304 := NB931_844.out
  have hnc304 := NB844_931.out
  have hnb305 := NB931_845.out
  have hnc305 := NB845_931.out
  have hnb306 := NB931_866.out
  have hnc306 := NB866_931.out
  have hnb307 := NB931_871.out
  have hnc307 := NB871_931.out
  have hnb308 := NB931_876.out
  have hnc308 := NB876_931.out
  have hnb309 := NB931_881.out
  have hnc309 := NB881_931.out
  have hnb310 := NB931_887.out
  have hnc310 := NB887_931.out
  have hcz311_0 : w279.cell? ⟨gb931, 0, none⟩ = some (.int .i64 0) := (kQC BK931.out 0).trans rfl
  have hcz311_1 : w279.cell? ⟨gb931, 1, none⟩ = some (.slice none 0 0) := (kQC BK931.out 1).trans rfl
  have hfz311_0 := kQF BK931.out 0
  have hfz311_1 := kQF BK931.out 1
  have hnb312 := NB866_843.out
  have hnc312 := NB843_866.out
  have hnb313 := NB866_844.out
  have hnc313 := NB844_866.out
  have hnb314 := NB866_845.out
  have hnc314 := NB845_866.out
  have hnb315 := NB866_871.out
  have hnc315 := NB871_866.out
  have hnb316 := NB866_876.out
  have hnc316 := NB876_866.out
  have hnb317 := NB866_881.out
  have hnc317 := NB881_866.out
  have hnb318 := NB866_887.out
  have hnc318 := NB887_866.out
  have hcz319_0 : w279.cell? ⟨gb866, 0, none⟩ = some (.int .i64 t861) := (kQC BK866.out 0).trans rfl
  have hcz319_1 : w279.cell? ⟨gb866, 1, none⟩ = some (.slice Ao71 t862.length co71) := (kQC BK866.out 1).trans rfl
  have hfz319_0 := kQF BK866.out 0
  have hfz319_1 := kQF BK866.out 1
  go_wp2_with (first | ((with_reducible refine gQc (f := 35) rfl ?_); refine goesL_ (some 127) rfl rfl Try.func35 (by kernel_rfl) rfl #[.agg #[.int .i64 t926, .slice Ao281 t927.length co281], .agg #[.int .i64 t861, .slice Ao71 t862.length co71]] rfl tL ?_; (with_reducible refine (laws_eqMatrix.calls kj165 t926 _ _ t927 t861 _ _ t862 false _ ?s1 ?s2 ?s3 ?s4 A283.out).mono ?_); (case s1 => refine (Kd.R_reads' (e := 2) (base := w.heap.size) (ok := fun k_ => (some k_ ≠ (v916 : Value).ownBlock ∧ (some k_ ≠ (v920 : Value).ownBlock ∧ (some k_ ≠ (v924 : Value).ownBlock ∧ (some k_ ≠ (.slice Ao71 t862.length co71 : Value).ownBlock ∧ (some k_ ≠ (.slice Ao82 t905.length co82 : Value).ownBlock ∧ (some k_ ≠ (.slice Ao93 t907.length co93 : Value).ownBlock ∧ (some k_ ≠ (.slice Ao105 t909.length co105 : Value).ownBlock ∧ some k_ ≠ (.slice Ao118 t883.length co118 : Value).ownBlock)))))))) (n := t927.length) (c := co281) ?_).2.2; exact (by (with_reducible repeat (first | apply Kd.RqA | apply Kd.RqN | apply Kd.RqD)); exact (Kd.R_mono (Kd.R_far (p := ⟨gb931, 1, none⟩) (Kd.R_far (p := ⟨gb931, 0, none⟩) (Kd.R_types HO929.out BK931.out (by decide)) (fun _ hk => hk.2) (.int .i64 t926)) (fun _ hk => hk.2) (.slice Ao281 t927.length co281)) (fun _ h_ => h_.1)))); (case s2 => exact (Kd.R_reads' HO929.out).2.1); (case s3 => refine (Kd.R_reads' (e := 2) (base := w.heap.size) (ok := fun k_ => (some k_ ≠ (v916 : Value).ownBlock ∧ (some k_ ≠ (v920 : Value).ownBlock ∧ (some k_ ≠ (v924 : Value).ownBlock ∧ (some k_ ≠ (.slice Ao281 t927.length co281 : Value).ownBlock ∧ (some k_ ≠ (.slice Ao82 t905.length co82 : Value).ownBlock ∧ (some k_ ≠ (.slice Ao93 t907.length co93 : Value).ownBlock ∧ (some k_ ≠ (.slice Ao105 t909.length co105 : Value).ownBlock ∧ some k_ ≠ (.slice Ao118 t883.length co118 : Value).ownBlock)))))))) (n := t862.length) (c := co71) ?_).2.2; exact (by (with_reducible repeat (first | apply Kd.RqA | apply Kd.RqN | apply Kd.RqD)); exact (Kd.R_mono (Kd.R_far (p := ⟨gb931, 1, none⟩) (Kd.R_far (p := ⟨gb931, 0, none⟩) (Kd.R_types HO_867001.out BK931.out (by decide)) (fun _ hk => hk.2) (.int .i64 t926)) (fun _ hk => hk.2) (.slice Ao281 t927.length co281)) (fun _ h_ => h_.1)))); (case s4 => exact (Kd.R_reads' HO_867001.out).2.1); rintro e w320 ⟨rfl, hb⟩; refine ⟨_, rfl, ?_⟩; refine qM19 (Kd.R_below (by (with_reducible repeat (first | apply Kd.RqA | apply Kd.RqN | apply Kd.RqD)); exact (Kd.R_mono (Kd.R_far (p := ⟨gb931, 1, none⟩) (Kd.R_far (p := ⟨gb931, 0, none⟩) (Kd.R_types HO_867001.out BK931.out (by decide)) (fun _ hk => hk.2) (.int .i64 t926)) (fun _ hk => hk.2) (.slice Ao281 t927.length co281)) (fun _ h_ => h_.1))) hb) (Kd.R_below (by (with_reducible repeat (first | apply Kd.RqA | apply Kd.RqN | apply Kd.RqD)); exact (Kd.R_mono (Kd.R_far (p := ⟨gb931, 1, none⟩) (Kd.R_far (p := ⟨gb931, 0, none⟩) (Kd.R_types HO_872001.out BK931.out (by decide)) (fun _ hk => hk.2) (.int .i64 t926)) (fun _ hk => hk.2) (.slice Ao281 t927.length co281)) (fun _ h_ => h_.1))) hb) (Kd.R_below (by (with_reducible repeat (first | apply Kd.RqA | apply Kd.RqN | apply Kd.RqD)); exact (Kd.R_mono (Kd.R_far (p := ⟨gb931, 1, none⟩) (Kd.R_far (p := ⟨gb931, 0, none⟩) (Kd.R_types HO_877001.out BK931.out (by decide)) (fun _ hk => hk.2) (.int .i64 t926)) (fun _ hk => hk.2) (.slice Ao281 t927.length co281)) (fun _ h_ => h_.1))) hb) (Kd.R_below (by (with_reducible repeat (first | apply Kd.RqA | apply Kd.RqN | apply Kd.RqD)); exact (Kd.R_mono (Kd.R_far (p := ⟨gb931, 1, none⟩) (Kd.R_far (p := ⟨gb931, 0, none⟩) (Kd.R_types HO_882001.out BK931.out (by decide)) (fun _ hk => hk.2) (.int .i64 t926)) (fun _ hk => hk.2) (.slice Ao281 t927.length co281)) (fun _ h_ => h_.1))) hb) (Kd.R_below (by (with_reducible repeat (first | apply Kd.RqA | apply Kd.RqN | apply Kd.RqD)); exact (Kd.R_mono (Kd.R_far (p := ⟨gb931, 1, none⟩) (Kd.R_far (p := ⟨gb931, 0, none⟩) (Kd.R_types HO_888001.out BK931.out (by decide)) (fun _ hk => hk.2) (.int .i64 t926)) (fun _ hk => hk.2) (.slice Ao281 t927.length co281)) (fun _ h_ => h_.1))) hb) (Kd.R_below (by (with_reducible repeat (first | apply Kd.RqA | apply Kd.RqN | apply Kd.RqD)); exact (Kd.R_mono (Kd.R_far (p := ⟨gb931, 1, none⟩) (Kd.R_far (p := ⟨gb931, 0, none⟩) (Kd.R_types HO917.out BK931.out (by decide)) (fun _ hk => hk.2) (.int .i64 t926)) (fun _ hk => hk.2) (.slice Ao281 t927.length co281)) (fun _ h_ => h_.1))) hb) (Kd.R_below (by (with_reducible repeat (first | apply Kd.RqA | apply Kd.RqN | apply Kd.RqD)); exact (Kd.R_mono (Kd.R_far (p := ⟨gb931, 1, none⟩) (Kd.R_far (p := ⟨gb931, 0, none⟩) (Kd.R_types HO921.out BK931.out (by decide)) (fun _ hk => hk.2) (.int .i64 t926)) (fun _ hk => hk.2) (.slice Ao281 t927.length co281)) (fun _ h_ => h_.1))) hb) (Kd.R_below (by (with_reducible repeat (first | apply Kd.RqA | apply Kd.RqN | apply Kd.RqD)); exact (Kd.R_mono (Kd.R_far (p := ⟨gb931, 1, none⟩) (Kd.R_far (p := ⟨gb931, 0, none⟩) (Kd.R_types HO925.out BK931.out (by decide)) (fun _ hk => hk.2) (.int .i64 t926)) (fun _ hk => hk.2) (.slice Ao281 t927.length co281)) (fun _ h_ => h_.1))) hb) (Kd.R_below (by (with_reducible repeat (first | apply Kd.RqA | apply Kd.RqN | apply Kd.RqD)); exact (Kd.R_mono (Kd.R_far (p := ⟨gb931, 1, none⟩) (Kd.R_far (p := ⟨gb931, 0, none⟩) (Kd.R_types HO929.out BK931.out (by decide)) (fun _ hk => hk.2) (.int .i64 t926)) (fun _ hk => hk.2) (.slice Ao281 t927.length co281)) (fun _ h_ => h_.1))) hb) (kQB (g := gb843) (o := .cells #[.int .i64 a0_0, .slice A0_1 l0_1.length c0_1] 55 (0, 0)) (by (with_reducible repeat (first | refine kQN ?_ _ | refine kQD ?_ | refine kQA ?_ _)); refine kQR ?_ NB843_931.out _; (with_reducible repeat (first | refine kQN ?_ _ | refine kQD ?_ | refine kQA ?_ _)); refine kQR ?_ NB843_931.out _; (with_reducible repeat (first | refine kQN ?_ _ | refine kQD ?_ | refine kQA ?_ _)); exact BK843.out) hb) (kQB (g := gb844) (o := .cells #[.int .i64 a1_0, .slice A1_1 l1_1.length c1_1] 55 (0, 0)) (by (with_reducible repeat (first | refine kQN ?_ _ | refine kQD ?_ | refine kQA ?_ _)); refine kQR ?_ NB844_931.out _; (with_reducible repeat (first | refine kQN ?_ _ | refine kQD ?_ | refine kQA ?_ _)); refine kQR ?_ NB844_931.out _; (with_reducible repeat (first | refine kQN ?_ _ | refine kQD ?_ | refine kQA ?_ _)); exact BK844.out) hb) (kQB (g := gb845) (o := .cells #[.int .i64 a2_0, .slice A2_1 l2_1.length c2_1] 55 (0, 0)) (by (with_reducible repeat (first | refine kQN ?_ _ | refine kQD ?_ | refine kQA ?_ _)); refine kQR ?_ NB845_931.out _; (with_reducible repeat (first | refine kQN ?_ _ | refine kQD ?_ | refine kQA ?_ _)); refine kQR ?_ NB845_931.out _; (with_reducible repeat (first | refine kQN ?_ _ | refine kQD ?_ | refine kQA ?_ _)); exact BK845.out) hb) (kQB (g := gb866) (o := .cells #[.int .i64 t861, .slice Ao71 t862.length co71] 27 (0, 0)) (by (with_reducible repeat (first | refine kQN ?_ _ | refine kQD ?_ | refine kQA ?_ _)); refine kQR ?_ NB866_931.out _; (with_reducible repeat (first | refine kQN ?_ _ | refine kQD ?_ | refine kQA ?_ _)); refine kQR ?_ NB866_931.out _; (with_reducible repeat (first | refine kQN ?_ _ | refine kQD ?_ | refine kQA ?_ _)); exact BK866.out) hb) (kQB (g := gb871) (o := .cells #[.int .i64 t867, .slice Ao82 t905.length co82] 27 (0, 0)) (by (with_reducible repeat (first | refine kQN ?_ _ | refine kQD ?_ | refine kQA ?_ _)); refine kQR ?_ NB871_931.out _; (with_reducible repeat (first | refine kQN ?_ _ | refine kQD ?_ | refine kQA ?_ _)); refine kQR ?_ NB871_931.out _; (with_reducible repeat (first | refine kQN ?_ _ | refine kQD ?_ | refine kQA ?_ _)); exact BK871.out) hb) (kQB (g := gb876) (o := .cells #[.int .i64 t872, .slice Ao93 t907.length co93] 27 (0, 0)) (by (with_reducible repeat (first | refine kQN ?_ _ | refine kQD ?_ | refine kQA ?_ _)); refine kQR ?_ NB876_931.out _; (with_reducible repeat (first | refine kQN ?_ _ | refine kQD ?_ | refine kQA ?_ _)); refine kQR ?_ NB876_931.out _; (with_reducible repeat (first | refine kQN ?_ _ | refine kQD ?_ | refine kQA ?_ _)); exact BK876.out) hb) (kQB (g := gb881) (o := .cells #[.int .i64 t877, .slice Ao105 t909.length co105] 27 (0, 0)) (by (with_reducible repeat (first | refine kQN ?_ _ | refine kQD ?_ | refine kQA ?_ _)); refine kQR ?_ NB881_931.out _; (with_reducible repeat (first | refine kQN ?_ _ | refine kQD ?_ | refine kQA ?_ _)); refine kQR ?_ NB881_931.out _; (with_reducible repeat (first | refine kQN ?_ _ | refine kQD ?_ | refine kQA ?_ _)); exact BK881.out) hb) (kQB (g := gb887) (o := .cells #[.int .i64 t882, .slice Ao118 t883.length co118] 27 (0, 0)) (by (with_reducible repeat (first | refine kQN ?_ _ | refine kQD ?_ | refine kQA ?_ _)); refine kQR ?_ NB887_931.out _; (with_reducible repeat (first | refine kQN ?_ _ | refine kQD ?_ | refine kQA ?_ _)); refine kQR ?_ NB887_931.out _; (with_reducible repeat (first | refine kQN ?_ _ | refine kQD ?_ | refine kQA ?_ _)); exact BK887.out) hb) (kQB (g := gb931) (o := .cells #[.int .i64 t926, .slice Ao281 t927.length co281] 27 (0, 0)) (by (with_reducible repeat (first | refine kQN ?_ _ | refine kQD ?_ | refine kQA ?_ _)); refine kQP (cs := #[.int .i64 t926, .slice none 0 0]) ?_ 1 _ rfl; (with_reducible repeat (first | refine kQN ?_ _ | refine kQD ?_ | refine kQA ?_ _)); refine kQP (cs := #[.int .i64 0, .slice none 0 0]) ?_ 0 _ rfl; (with_reducible repeat (first | refine kQN ?_ _ | refine kQD ?_ | refine kQA ?_ _)); exact BK931.out) hb) (bQT tB hb) ?_; clear HO_867001 HO_872001 HO_877001 HO_882001 HO_888001 HO917 HO921 HO925 HO929 BK843 BK844 BK845 BK866 BK871 BK876 BK881 BK887 BK931 HB; intro HO_867001 HO_872001 HO_877001 HO_882001 HO_888001 HO917 HO921 HO925 HO929 BK843 BK844 BK845 BK866 BK871 BK876 BK881 BK887 BK931 HB; (try clear hb); (try clear hb2); (try clear hk); (try clear hi)))
  go_meet
  case rel => exact ⟨_, (true), tS, H', ⟨by have := HJ46.out; have := HJ165.out; first | omega | exact Nat.le_refl _⟩, ⟨by (try simp only [hl872001_165]); (try simp only [hl877001_165]); (try simp only [hl882001_165]); (with_reducible repeat (first | apply Kd.RqA | apply Kd.RqN | apply Kd.RqD)); exact Kd.R_mono HO_867001.out (fun _ hk => ⟨hk.2.2.2.2.1, ⟨hk.2.2.2.2.2.1, ⟨hk.2.2.2.2.2.2.1, ⟨hk.2.2.2.2.2.2.2, hk.2.2.2.1⟩⟩⟩⟩)⟩, ⟨by (try simp only [hl872001_165]); (try simp only [hl877001_165]); (try simp only [hl882001_165]); (with_reducible repeat (first | apply Kd.RqA | apply Kd.RqN | apply Kd.RqD)); exact Kd.R_mono HO_872001.out (fun _ hk => ⟨hk.2.2.2.2.1, ⟨hk.2.2.2.2.2.1, ⟨hk.2.2.2.2.2.2.1, ⟨hk.2.2.2.2.2.2.2, hk.2.2.2.1⟩⟩⟩⟩)⟩, ⟨by (try simp only [hl872001_165]); (try simp only [hl877001_165]); (try simp only [hl882001_165]); (with_reducible repeat (first | apply Kd.RqA | apply Kd.RqN | apply Kd.RqD)); exact Kd.R_mono HO_877001.out (fun _ hk => ⟨hk.2.2.2.2.1, ⟨hk.2.2.2.2.2.1, ⟨hk.2.2.2.2.2.2.1, ⟨hk.2.2.2.2.2.2.2, hk.2.2.2.1⟩⟩⟩⟩)⟩, ⟨by (try simp only [hl872001_165]); (try simp only [hl877001_165]); (try simp only [hl882001_165]); (with_reducible repeat (first | apply Kd.RqA | apply Kd.RqN | apply Kd.RqD)); exact Kd.R_mono HO_882001.out (fun _ hk => ⟨hk.2.2.2.2.1, ⟨hk.2.2.2.2.2.1, ⟨hk.2.2.2.2.2.2.1, ⟨hk.2.2.2.2.2.2.2, hk.2.2.2.1⟩⟩⟩⟩)⟩, ⟨by (try simp only [hl872001_165]); (try simp only [hl877001_165]); (try simp only [hl882001_165]); (with_reducible repeat (first | apply Kd.RqA | apply Kd.RqN | apply Kd.RqD)); exact Kd.R_mono HO_888001.out (fun _ hk => ⟨hk.2.2.2.2.1, ⟨hk.2.2.2.2.2.1, ⟨hk.2.2.2.2.2.2.1, ⟨hk.2.2.2.2.2.2.2, hk.2.2.2.1⟩⟩⟩⟩)⟩, ⟨by (try simp only [hl872001_165]); (try simp only [hl877001_165]); (try simp only [hl882001_165]); (with_reducible repeat (first | apply Kd.RqA | apply Kd.RqN | apply Kd.RqD)); exact Kd.R_mono HO929.out (fun _ hk => ⟨hk.2.2.2.1, ⟨hk.2.2.2.2.1, ⟨hk.2.2.2.2.2.1, ⟨hk.2.2.2.2.2.2.1, hk.2.2.2.2.2.2.2⟩⟩⟩⟩)⟩, ⟨by (try simp only [hl872001_165]); (try simp only [hl877001_165]); (try simp only [hl882001_165]); (with_reducible repeat (first | refine kQN ?_ _ | refine kQD ?_ | refine kQA ?_ _)); exact BK843.out⟩, ⟨by (try simp only [hl872001_165]); (try simp only [hl877001_165]); (try simp only [hl882001_165]); (with_reducible repeat (first | refine kQN ?_ _ | refine kQD ?_ | refine kQA ?_ _)); exact BK844.out⟩, ⟨by (try simp only [hl872001_165]); (try simp only [hl877001_165]); (try simp only [hl882001_165]); (with_reducible repeat (first | refine kQN ?_ _ | refine kQD ?_ | refine kQA ?_ _)); exact BK845.out⟩, ⟨by (try simp only [hl872001_165]); (try simp only [hl877001_165]); (try simp only [hl882001_165]); (with_reducible repeat (first | refine kQN ?_ _ | refine kQD ?_ | refine kQA ?_ _)); exact BK866.out⟩, ⟨by (try simp only [hl872001_165]); (try simp only [hl877001_165]); (try simp only [hl882001_165]); (with_reducible repeat (first | refine kQN ?_ _ | refine kQD ?_ | refine kQA ?_ _)); exact BK871.out⟩, ⟨by (try simp only [hl872001_165]); (try simp only [hl877001_165]); (try simp only [hl882001_165]); (with_reducible repeat (first | refine kQN ?_ _ | refine kQD ?_ | refine kQA ?_ _)); exact BK876.out⟩, ⟨by (try simp only [hl872001_165]); (try simp only [hl877001_165]); (try simp only [hl882001_165]); (with_reducible repeat (first | refine kQN ?_ _ | refine kQD ?_ | refine kQA ?_ _)); exact BK881.out⟩, ⟨by (try simp only [hl872001_165]); (try simp only [hl877001_165]); (try simp only [hl882001_165]); (with_reducible repeat (first | refine kQN ?_ _ | refine kQD ?_ | refine kQA ?_ _)); exact BK887.out⟩, ⟨by (try simp only [hl872001_165]); (try simp only [hl877001_165]); (try simp only [hl882001_165]); (with_reducible repeat (first | refine kQN ?_ _ | refine kQD ?_ | refine kQA ?_ _)); exact BK931.out⟩, ⟨tB⟩⟩
 clear HC258
 try clear c284
 try clear hcz293_0
 try clear hcz293_1
 try clear hcz301_0
 try clear hcz301_1
 try clear hcz311_0
 try clear hcz311_1
 try clear hcz319_0
 try clear hcz319_1
 try clear hfz293_0
 try clear hfz293_1
 try clear hfz301_0
 try clear hfz301_1
 try clear hfz311_0
 try clear hfz311_1
 try clear hfz319_0
 try clear hfz319_1
 obtain ⟨kq, x133_257, rfl, HA, HJ257, HO_867001, HO_872001, HO_877001, HO_882001, HO_888001, HO_932001, BK843, BK844, BK845, BK866, BK871, BK876, BK881, BK887, BK931, HB⟩ := hcut
 have hl888001_257 := (Kd.R_reads' HO_888001.out).1
 rw [hl888001_257] at HO_888001
 (try simp only [hl888001_257])
 (try simp only [hl888001_257] at BK843)
 (try simp only [hl888001_257] at BK844)
 (try simp only [hl888001_257] at BK845)
 (try simp only [hl888001_257] at BK866)
 (try simp only [hl888001_257] at BK871)
 (try simp only [hl888001_257] at BK876)
 (try simp only [hl888001_257] at BK881)
 (try simp only [hl888001_257] at BK887)
 (try simp only [hl888001_257] at BK931)
 (try simp only [hl888001_257] at HO_867001)
 (try simp only [hl888001_257] at HO_872001)
 (try simp only [hl888001_257] at HO_877001)
 (try simp only [hl888001_257] at HO_882001)
 (try simp only [hl888001_257] at HO_932001)
 cases kq with
 | zero => exact absurd HA.out (by simp [laws_FnExactSendThrough.j2])
 | succ kj257 =>
  have H := HA.out
  clear HA
  simp only [laws_FnExactSendThrough.j2] at H
  by_cases c321 : x133_257 = true
  ·subst c321
   rw [if_pos rfl] at H
   obtain rfl := Option.some.inj H
   go_wp2
   go_ret
   exact ⟨tE, tB⟩
  replace c321 := Bool.eq_false_iff.mpr c321
  subst c321
  rw [if_neg (show ¬ (false = true) by decide)] at H
  obtain ⟨t933, A322, H⟩ := qBd H
  by_cases c323 : t933 < 0
  ·rw [if_pos c323] at H
   have c323b0 := decide_eq_true c323
   clear c323
   (try (have c323b0z := c323b0; simp only [hl872001_165, hl877001_165, hl882001_165, hl888001_257] at c323b0z))
   obtain rfl := Option.some.inj H
   have hnb324 := NB887_843.out
   have hnc324 := NB843_887.out
   have hnb325 := NB887_844.out
   have hnc325 := NB844_887.out
   have hnb326 := NB887_845.out
   have hnc326 := NB845_887.out
   have hnb327 := NB887_866.out
   have hnc327 := NB866_887.out
   have hnb328 := NB887_871.out
   have hnc328 := NB871_887.out
   have hnb329 := NB887_876.out
   have hnc329 := NB876_887.out
   have hnb330 := NB887_881.out
   have hnc330 := NB881_887.out
   have hnb331 := NB887_931.out
   have hnc331 := NB931_887.out
   have hcz332_0 : wc.cell? ⟨gb887, 0, none⟩ = some (.int .i64 t882) := (kQC BK887.out 0).trans rfl
   have hcz332_1 : wc.cell? ⟨gb887, 1, none⟩ = some (.slice Ao118 t912.length co118) := (kQC BK887.out 1).trans rfl
   have hfz332_0 := kQF BK887.out 0
   have hfz332_1 := kQF BK887.out 1
   go_wp2_with (first | ((with_reducible refine gQc (f := 37) rfl ?_); refine goesL_ (some 136) rfl rfl Try.func37 (by kernel_rfl) rfl #[.agg #[.int .i64 t882, .slice Ao118 t912.length co118], .int .i64 1] rfl tL ?_; (with_reducible refine (laws_heldMatrix.calls kj257 t882 _ _ t912 1 t933 _ ?s1 ?s2 A322.out).mono ?_); (case s1 => exact tC ((Kd.R_reads' HO_888001.out).2.2)); (case s2 => exact (Kd.R_reads' HO_888001.out).2.1); rintro e w333 ⟨rfl, hb⟩; refine ⟨_, rfl, ?_⟩; refine qM16 (Kd.R_below (tR HO_867001.out) hb) (Kd.R_below (tR HO_872001.out) hb) (Kd.R_below (tR HO_877001.out) hb) (Kd.R_below (tR HO_882001.out) hb) (Kd.R_below (tR HO_888001.out) hb) (Kd.R_below (tR HO_932001.out) hb) (tQ BK843.out hb) (tQ BK844.out hb) (tQ BK845.out hb) (tQ BK866.out hb) (tQ BK871.out hb) (tQ BK876.out hb) (tQ BK881.out hb) (tQ BK887.out hb) (tQ BK931.out hb) (bQT tB hb) ?_; clear HO_867001 HO_872001 HO_877001 HO_882001 HO_888001 HO_932001 BK843 BK844 BK845 BK866 BK871 BK876 BK881 BK887 BK931 HB; intro HO_867001 HO_872001 HO_877001 HO_882001 HO_888001 HO_932001 BK843 BK844 BK845 BK866 BK871 BK876 BK881 BK887 BK931 HB; (try clear hb); (try clear hb2); (try clear hk); (try clear hi)))
   go_ret
   exact ⟨tE, tB⟩
  rw [if_neg c323] at H
  have c323b0 := decide_eq_false c323
  clear c323
  (try (have c323b0z := c323b0; simp only [hl872001_165, hl877001_165, hl882001_165, hl888001_257] at c323b0z))
  by_cases c334 : t933 = t911
  ·rw [if_pos c334] at H
   have c334b0 := beq_iff_eq.mpr c334
   have c334b1 := bne_eq_false_iff_eq.mpr c334
   clear c334
   (try (have c334b0z := c334b0; simp only [hl872001_165, hl877001_165, hl882001_165, hl888001_257] at c334b0z))
   (try (have c334b1z := c334b1; simp only [hl872001_165, hl877001_165, hl882001_165, hl888001_257] at c334b1z))
   obtain rfl := Option.some.inj H
   have hnb335 := NB887_843.out
   have hnc335 := NB843_887.out
   have hnb336 := NB887_844.out
   have hnc336 := NB844_887.out
   have hnb337 := NB887_845.out
   have hnc337 := NB845_887.out
   have hnb338 := NB887_866.out
   have hnc338 := NB866_887.out
   have hnb339 := NB887_871.out
   have hnc339 := NB871_887.out
   have hnb340 := NB887_876.out
   have hnc340 := NB876_887.out
   have hnb341 := NB887_881.out
   have hnc341 := NB881_887.out
   have hnb342 := NB887_931.out
   have hnc342 := NB931_887.out
   have hcz343_0 : wc.cell? ⟨gb887, 0, none⟩ = some (.int .i64 t882) := (kQC BK887.out 0).trans rfl
   have hcz343_1 : wc.cell? ⟨gb887, 1, none⟩ = some (.slice Ao118 t912.length co118) := (kQC BK887.out 1).trans rfl
   have hfz343_0 := kQF BK887.out 0
   have hfz343_1 := kQF BK887.out 1
   go_wp2_with (first | ((with_reducible refine gQc (f := 37) rfl ?_); refine goesL_ (some 136) rfl rfl Try.func37 (by kernel_rfl) rfl #[.agg #[.int .i64 t882, .slice Ao118 t912.length co118], .int .i64 1] rfl tL ?_; (with_reducible refine (laws_heldMatrix.calls kj257 t882 _ _ t912 1 t933 _ ?s1 ?s2 A322.out).mono ?_); (case s1 => exact tC ((Kd.R_reads' HO_888001.out).2.2)); (case s2 => exact (Kd.R_reads' HO_888001.out).2.1); rintro e w344 ⟨rfl, hb⟩; refine ⟨_, rfl, ?_⟩; refine qM16 (Kd.R_below (tR HO_867001.out) hb) (Kd.R_below (tR HO_872001.out) hb) (Kd.R_below (tR HO_877001.out) hb) (Kd.R_below (tR HO_882001.out) hb) (Kd.R_below (tR HO_888001.out) hb) (Kd.R_below (tR HO_932001.out) hb) (tQ BK843.out hb) (tQ BK844.out hb) (tQ BK845.out hb) (tQ BK866.out hb) (tQ BK871.out hb) (tQ BK876.out hb) (tQ BK881.out hb) (tQ BK887.out hb) (tQ BK931.out hb) (bQT tB hb) ?_; clear HO_867001 HO_872001 HO_877001 HO_882001 HO_888001 HO_932001 BK843 BK844 BK845 BK866 BK871 BK876 BK881 BK887 BK931 HB; intro HO_867001 HO_872001 HO_877001 HO_882001 HO_888001 HO_932001 BK843 BK844 BK845 BK866 BK871 BK876 BK881 BK887 BK931 HB; (try clear hb); (try clear hb2); (try clear hk); (try clear hi)))
   go_ret
   exact ⟨tE, tB⟩
  rw [if_neg c334] at H
  have c334b0 := beq_eq_false_iff_ne.mpr c334
  have c334b1 := bne_iff_ne.mpr c334
  (try (have c334b0z := c334b0; simp only [hl872001_165, hl877001_165, hl882001_165, hl888001_257] at c334b0z))
  (try (have c334b1z := c334b1; simp only [hl872001_165, hl877001_165, hl882001_165, hl888001_257] at c334b1z))
  obtain rfl := Option.some.inj H
  have hnb345 := NB887_843.out
  have hnc345 := NB843_887.out
  have hnb346 := NB887_844.out
  have hnc346 := NB844_887.out
  have hnb347 := NB887_845.out
  have hnc347 := NB845_887.out
  have hnb348 := NB887_866.out
  have hnc348 := NB866_887.out
  have hnb349 := NB887_871.out
  have hnc349 := NB871_887.out
  have hnb350 := NB887_876.out
  have hnc350 := NB876_887.out
  have hnb351 := NB887_881.out
  have hnc351 := NB881_887.out
  have hnb352 := NB887_931.out
  have hnc352 := NB931_887.out
  have hcz353_0 : wc.cell? ⟨gb887, 0, none⟩ = some (.int .i64 t882) := (kQC BK887.out 0).trans rfl
  have hcz353_1 : wc.cell? ⟨gb887, 1, none⟩ = some (.slice Ao118 t912.length co118) := (kQC BK887.out 1).trans rfl
  have hfz353_0 := kQF BK887.out 0
  have hfz353_1 := kQF BK887.out 1
  go_wp2_with (first | ((with_reducible refine gQc (f := 37) rfl ?_); refine goesL_ (some 136) rfl rfl Try.func37 (by kernel_rfl) rfl #[.agg #[.int .i64 t882, .slice Ao118 t912.length co118], .int .i64 1] rfl tL ?_; (with_reducible refine (laws_heldMatrix.calls kj257 t882 _ _ t912 1 t933 _ ?s1 ?s2 A322.out).mono ?_); (case s1 => exact tC ((Kd.R_reads' HO_888001.out).2.2)); (case s2 => exact (Kd.R_reads' HO_888001.out).2.1); rintro e w354 ⟨rfl, hb⟩; refine ⟨_, rfl, ?_⟩; refine qM16 (Kd.R_below (tR HO_867001.out) hb) (Kd.R_below (tR HO_872001.out) hb) (Kd.R_below (tR HO_877001.out) hb) (Kd.R_below (tR HO_882001.out) hb) (Kd.R_below (tR HO_888001.out) hb) (Kd.R_below (tR HO_932001.out) hb) (tQ BK843.out hb) (tQ BK844.out hb) (tQ BK845.out hb) (tQ BK866.out hb) (tQ BK871.out hb) (tQ BK876.out hb) (tQ BK881.out hb) (tQ BK887.out hb) (tQ BK931.out hb) (bQT tB hb) ?_; clear HO_867001 HO_872001 HO_877001 HO_882001 HO_888001 HO_932001 BK843 BK844 BK845 BK866 BK871 BK876 BK881 BK887 BK931 HB; intro HO_867001 HO_872001 HO_877001 HO_882001 HO_888001 HO_932001 BK843 BK844 BK845 BK866 BK871 BK876 BK881 BK887 BK931 HB; (try clear hb); (try clear hb2); (try clear hk); (try clear hi)))
  go_ret
  exact ⟨tE, tB⟩
end Go.Proofs.Ythjfilmdobkmlaa.P
