/- Functions of the program and what they tell, as the printing program wrote it. -/
import Derived.Test.YthjfilmdobkmlaaPx0
import Derived.Test.YthjfilmdobkmlaaPx35
import Derived.Test.YthjfilmdobkmlaaPx36
import Derived.Test.YthjfilmdobkmlaaPx37
import Derived.Test.YthjfilmdobkmlaaPx38
import Derived.Test.YthjfilmdobkmlaaPx39
import Derived.Test.YthjfilmdobkmlaaPx43h
namespace Go.Proofs.Ythjfilmdobkmlaa.P
open Go.Shelf Go.RowKit Go.Proofs.YthjfilmdobkmlaaW.PrintWords Go.Proofs.YthjfilmdobkmlaaW.PrintLast Go.Proofs.YthjfilmdobkmlaaW.PrintMore
attribute [local go_sem] max2_int min2_int max_two min_two max_three min_three max_four min_four
set_option linter.unusedVariables false
set_option linter.unusedSimpArgs false
set_option maxHeartbeats 8000000
set_option maxRecDepth 100000
noncomputable def laws_FnExactSendThrough.G8 : (G0_ : Prop) ×' (laws_FnExactSendThrough.W G0_ → laws_FnExactSendThrough.G7.1) := by
 constructor
 ·intro hG0_
  intro k a0_0 A0_1 c0_1 l0_1 a1_0 A1_1 c1_1 l1_1 a2_0 A2_1 c2_1 l2_1 r w hu55 hu27 HR0_1 HC0_1 HR1_1 HC1_1 HR2_1 HC2_1 za_2_0 t846 A4 za_2_1 c5b0 t847 A13 za_2_2 c14b0 t848 A25 za_2_3 c26b0 t849 t850 A39 za_2_4 t853 t854 A40 za_2_5 t857 t858 A41 za_2_6 t861 t862 t865 A42 za_2_7 t867 t868 A43 za_2_8 t872 t873 A44 za_2_9 t877 t878 A45 zf_1_0 t882 t883 t886 A46 za_2_10 gb843 w48 GW843 GE843 gb844 w49 GW844 GE844 NB843_844 NB844_843 gb845 w50 GW845 GE845 NB843_845 NB845_843 NB844_845 NB845_844 hnb51 hnc51 hnb52 hnc52 hcz53_0 hcz53_1 hfz53_0 hfz53_1 w54 hnb55 hnc55 hcz56_0 hcz56_1 hfz56_0 hfz56_1 w57 hcz58_0 hcz58_1 hfz58_0 hfz58_1 w59 zh_0_0 zh_0_1 w60 za_2_11 v851 v855 v859 gb866 w69 hS_ GW866 GE866 NB843_866 NB866_843 NB844_866 NB866_844 NB845_866 NB866_845 za_2_12 Ao71 co71 hs70 hfs70 hns70_0 hns70_1 hns70_2 hms70_0 hms70_1 hms70_2 hs72 hfs72 hns72_0 hns72_1 hns72_2 hms72_0 hms72_1 hms72_2 zf_1_1 hnb73 hnc73 w75 gb871 w76 GW871 GE871 NB843_871 NB871_843 NB844_871 NB871_844 NB845_871 NB871_845 NB866_871 NB871_866 hnb77 hnc77 hnb78 hnc78 hnb79 hnc79 hnb80 hnc80 Ao82 co82 hnb83 hnc83 w85 gb876 w86 GW876 GE876 NB843_876 NB876_843 NB844_876 NB876_844 NB845_876 NB876_845 NB866_876 NB876_866 NB871_876 NB876_871 hnb87 hnc87 hnb88 hnc88 hnb89 hnc89 hnb90 hnc90 hnb91 hnc91 Ao93 co93 hnb94 hnc94 w96 gb881 w97 GW881 GE881 NB843_881 NB881_843 NB844_881 NB881_844 NB845_881 NB881_845 NB866_881 NB881_866 NB871_881 NB881_871 NB876_881 NB881_876 hnb98 hnc98 hnb99 hnc99 hnb100 hnc100 hnb101 hnc101 hnb102 hnc102 hnb103 hnc103 Ao105 co105 w108 gb887 w109 zf_1_2 zf_1_3 zf_1_4 zf_1_5 zf_1_6 zf_1_7 zf_1_8 zf_1_9 zf_1_10 GW887 GE887 NB843_887 NB887_843 NB844_887 NB887_844 NB845_887 NB887_845 NB866_887 NB887_866 NB871_887 NB887_871 NB876_887 NB887_876 NB881_887 NB887_881 hnb110 hnc110 hnb111 hnc111 hnb112 hnc112 hnb113 hnc113 hnb114 hnc114 hnb115 hnc115 hnb116 hnc116 Ao118 co118 HO852 HO856 HO860 HO864 HO870 HO875 HO880 HO885 zf_1_11 zf_1_12 zf_1_13 zf_1_14 zf_1_15 zf_1_16 zf_1_17 zf_1_18 zf_1_19 zf_1_20 zf_1_21 zf_1_22 zf_1_23 zf_1_24 zf_1_25 zf_1_26 zf_1_27 zf_1_28 zf_1_29 zf_1_30 zf_1_31 zf_1_32 zf_1_33 zf_1_34 zf_1_35 zf_1_36 zf_1_37 zf_1_38 zf_1_39 zf_1_40 zf_1_41 zf_1_42 zf_1_43 zf_1_44 zf_1_45 zf_1_46 zf_1_47 zf_1_48 zf_1_49 zf_1_50 zf_1_51 zf_1_52 zf_1_53 zf_1_54 zf_1_55 zf_1_56 zf_1_57 zf_1_58 zf_1_59 zf_1_60 zf_1_61 zf_1_62 zf_1_63 zf_1_64 zf_1_65 zf_1_66 zf_1_67 zf_1_68 zf_1_69 zf_1_70 zf_1_71 zf_1_72 zf_1_73 zf_1_74 zf_1_75 zf_1_76 zf_1_77 zf_1_78 zf_1_79 zf_1_80 zf_1_81 zf_1_82 zf_1_83 zf_1_84 zf_1_85 zf_1_86 zf_1_87 zf_1_88 zf_1_89 zf_1_90 zf_1_91 zf_1_92 zf_1_93 zf_1_94 zf_1_95 zf_1_96 zf_1_97 zf_1_98 zf_1_99 zf_1_100 zf_1_101 zf_1_102 zf_1_103 zf_1_104 zf_1_105 zf_1_106 zf_1_107 zf_1_108 zf_1_109 zf_1_110 zf_1_111 zf_1_112 zf_1_113 zf_1_114 zf_1_115 zf_1_116 zf_1_117 zf_1_118 zf_1_119 zf_1_120 zf_1_121 zf_1_122 zf_1_123 zf_1_124 zf_1_125 zf_1_126 zf_1_127 zf_1_128 zf_1_129 zf_1_130 zf_1_131 zf_1_132 kj46 HJ46 zf_1_133 t889 t890 A154 zf_1_134 A155 zf_1_135 t894 t895 A157 zf_1_136 A158 zf_1_137 t899 t900 A160 zf_1_138 A161 zf_1_139 t904 t905 A163 zf_1_140 t906 t907 A164 zh_0_2 t908 t909 A165 w167 zf_1_141 w168 Ao169 co169 zf_1_142 w170 zf_1_143 w171 zf_1_144 w172 Ao173 co173 zf_1_145 w174 zf_1_146 w175 zf_1_147 w176 Ao177 co177 zf_1_148 w178 zh_0_3 hnb179 hnc179 hnb180 hnc180 hnb181 hnc181 hnb182 hnc182 hnb183 hnc183 hnb184 hnc184 hnb185 hnc185 w187 hnb188 hnc188 hnb189 hnc189 hnb190 hnc190 hnb191 hnc191 hnb192 hnc192 hnb193 hnc193 w195 hnb196 hnc196 hnb197 hnc197 hnb198 hnc198 hnb199 hnc199 hnb200 hnc200 w202 zh_0_4 zh_0_5 zh_0_6 zh_0_7 zh_0_8 zh_0_9 zh_0_10 zh_0_11 zh_0_12 zh_0_13 zh_0_14 zh_0_15 zh_0_16 HO892 HO897 HO902 zh_0_17 wc u20 u21 u22 u23 u24 u25 u26 u27 u28 u29 u30 u31 u32 u33 u34 u35 u36 u37 u38 u39 u40 u41 u42 u43 u44 u45 u46 u47 u48 u49 u50 u51 u52 u53 u54 u55 u56 u57 u58 u59 u60 u61 u62 u63 u64 u65 u66 u67 u68 u69 u70 u71 u72 u73 u74 u75 u76 u77 u78 u79 u80 u81 u82 u83 u84 u85 u86 u87 u88 u89 u90 u91 u92 u93 u94 u95 u96 u97 u98 u99 u100 u101 u102 u104 u105 u106 u107 u108 u109 u110 u111 u112 u113 u114 u115 u116 u117 u118 u119 u120 u121 u122 u123 u124 u125 u126 u127 u128 u129 u130 u131 u132 u133 u134 u135 u136 u137 u138 u139 u140 u141 hl872001_165 hl877001_165 hl882001_165 kj165 HJ165 zh_0_18 t911 t912 A239 zh_0_19 t913 A240 zh_0_20 c241b0 c253b0 c253b1 t914 t915 A254 zh_0_21 t918 t919 A255 zh_0_22 t922 t923 A256 H t926 t927 t930 A257 HC258 hnb259 hnc259 hnb260 hnc260 hnb261 hnc261 hnb262 hnc262 hnb263 hnc263 hnb264 hnc264 hnb265 hnc265 hcz266_0 hcz266_1 hfz266_0 hfz266_1 w267 hcz268_0 hcz268_1 hfz268_0 hfz268_1 w269 zh_0_23 zh_0_24 HT_ HW_ w270 HO_867001 HO_872001 HO_877001 HO_882001 HO_888001 BK843 BK844 BK845 BK866 BK871 BK876 BK881 BK887 HB hHeld
  intro hJ1_3_5_6_10
  refine join_ (σ := Value × Value × Value × Value) 3 #[true, true, true, true, true, true, true, true, true, true, false, false, false] (fun s_ => [(117, .agg #[.int .i64 t914, s_.1]), (119, .agg #[.int .i64 t918, s_.2.1]), (121, .agg #[.int .i64 t922, s_.2.2.1]), (122, .tuple #[.agg #[.int .i64 t926, s_.2.2.2], .int .i64 t930]), (115, .tuple #[.agg #[.int .i64 t926, s_.2.2.2], .int .i64 t930]), (123, .agg #[.int .i64 t926, s_.2.2.2]), (124, .int .i64 t930)]) (fun s_ w' => (w'.cell? ⟨gb843, 0, none⟩ = some (.int .i64 a0_0) ∧ w'.cell? ⟨gb843, 1, none⟩ = some (.slice A0_1 l0_1.length c0_1) ∧ w'.cell? ⟨gb844, 0, none⟩ = some (.int .i64 a1_0) ∧ w'.cell? ⟨gb844, 1, none⟩ = some (.slice A1_1 l1_1.length c1_1) ∧ w'.cell? ⟨gb845, 0, none⟩ = some (.int .i64 a2_0) ∧ w'.cell? ⟨gb845, 1, none⟩ = some (.slice A2_1 l2_1.length c2_1)) ∧ (Kd.R (Kd.int .i64) 2 w' w.heap.size (fun k_ => some k_ ≠ (s_.2.1 : Value).ownBlock ∧ some k_ ≠ (s_.2.2.1 : Value).ownBlock ∧ some k_ ≠ (s_.2.2.2 : Value).ownBlock ∧ some k_ ≠ (.slice Ao71 t862.length co71 : Value).ownBlock ∧ some k_ ≠ (.slice Ao82 t905.length co82 : Value).ownBlock ∧ some k_ ≠ (.slice Ao93 t907.length co93 : Value).ownBlock ∧ some k_ ≠ (.slice Ao105 t909.length co105 : Value).ownBlock ∧ some k_ ≠ (.slice Ao118 t883.length co118 : Value).ownBlock) s_.1 t915) ∧ (Kd.R (Kd.int .i64) 2 w' w.heap.size (fun k_ => some k_ ≠ (s_.1 : Value).ownBlock ∧ some k_ ≠ (s_.2.2.1 : Value).ownBlock ∧ some k_ ≠ (s_.2.2.2 : Value).ownBlock ∧ some k_ ≠ (.slice Ao71 t862.length co71 : Value).ownBlock ∧ some k_ ≠ (.slice Ao82 t905.length co82 : Value).ownBlock ∧ some k_ ≠ (.slice Ao93 t907.length co93 : Value).ownBlock ∧ some k_ ≠ (.slice Ao105 t909.length co105 : Value).ownBlock ∧ some k_ ≠ (.slice Ao118 t883.length co118 : Value).ownBlock) s_.2.1 t919) ∧ (Kd.R (Kd.int .i64) 2 w' w.heap.size (fun k_ => some k_ ≠ (s_.1 : Value).ownBlock ∧ some k_ ≠ (s_.2.1 : Value).ownBlock ∧ some k_ ≠ (s_.2.2.2 : Value).ownBlock ∧ some k_ ≠ (.slice Ao71 t862.length co71 : Value).ownBlock ∧ some k_ ≠ (.slice Ao82 t905.length co82 : Value).ownBlock ∧ some k_ ≠ (.slice Ao93 t907.length co93 : Value).ownBlock ∧ some k_ ≠ (.slice Ao105 t909.length co105 : Value).ownBlock ∧ some k_ ≠ (.slice Ao118 t883.length co118 : Value).ownBlock) s_.2.2.1 t923) ∧ (Kd.R (Kd.int .i64) 2 w' w.heap.size (fun k_ => some k_ ≠ (s_.1 : Value).ownBlock ∧ some k_ ≠ (s_.2.1 : Value).ownBlock ∧ some k_ ≠ (s_.2.2.1 : Value).ownBlock ∧ some k_ ≠ (.slice Ao71 t862.length co71 : Value).ownBlock ∧ some k_ ≠ (.slice Ao82 t905.length co82 : Value).ownBlock ∧ some k_ ≠ (.slice Ao93 t907.length co93 : Value).ownBlock ∧ some k_ ≠ (.slice Ao105 t909.length co105 : Value).ownBlock ∧ some k_ ≠ (.slice Ao118 t883.length co118 : Value).ownBlock) s_.2.2.2 t927) ∧ (Kd.R (Kd.int .i64) 2 w' w.heap.size (fun k_ => some k_ ≠ (s_.1 : Value).ownBlock ∧ some k_ ≠ (s_.2.1 : Value).ownBlock ∧ some k_ ≠ (s_.2.2.1 : Value).ownBlock ∧ some k_ ≠ (s_.2.2.2 : Value).ownBlock ∧ some k_ ≠ (.slice Ao82 t905.length co82 : Value).ownBlock ∧ some k_ ≠ (.slice Ao93 t907.length co93 : Value).ownBlock ∧ some k_ ≠ (.slice Ao105 t909.length co105 : Value).ownBlock ∧ some k_ ≠ (.slice Ao118 t883.length co118 : Value).ownBlock) (.slice Ao71 t862.length co71) t862) ∧ (Kd.R (Kd.int .i64) 2 w' w.heap.size (fun k_ => some k_ ≠ (s_.1 : Value).ownBlock ∧ some k_ ≠ (s_.2.1 : Value).ownBlock ∧ some k_ ≠ (s_.2.2.1 : Value).ownBlock ∧ some k_ ≠ (s_.2.2.2 : Value).ownBlock ∧ some k_ ≠ (.slice Ao71 t862.length co71 : Value).ownBlock ∧ some k_ ≠ (.slice Ao93 t907.length co93 : Value).ownBlock ∧ some k_ ≠ (.slice Ao105 t909.length co105 : Value).ownBlock ∧ some k_ ≠ (.slice Ao118 t883.length co118 : Value).ownBlock) (.slice Ao82 t905.length co82) t905) ∧ (Kd.R (Kd.int .i64) 2 w' w.heap.size (fun k_ => some k_ ≠ (s_.1 : Value).ownBlock ∧ some k_ ≠ (s_.2.1 : Value).ownBlock ∧ some k_ ≠ (s_.2.2.1 : Value).ownBlock ∧ some k_ ≠ (s_.2.2.2 : Value).ownBlock ∧ some k_ ≠ (.slice Ao71 t862.length co71 : Value).ownBlock ∧ some k_ ≠ (.slice Ao82 t905.length co82 : Value).ownBlock ∧ some k_ ≠ (.slice Ao105 t909.length co105 : Value).ownBlock ∧ some k_ ≠ (.slice Ao118 t883.length co118 : Value).ownBlock) (.slice Ao93 t907.length co93) t907) ∧ (Kd.R (Kd.int .i64) 2 w' w.heap.size (fun k_ => some k_ ≠ (s_.1 : Value).ownBlock ∧ some k_ ≠ (s_.2.1 : Value).ownBlock ∧ some k_ ≠ (s_.2.2.1 : Value).ownBlock ∧ some k_ ≠ (s_.2.2.2 : Value).ownBlock ∧ some k_ ≠ (.slice Ao71 t862.length co71 : Value).ownBlock ∧ some k_ ≠ (.slice Ao82 t905.length co82 : Value).ownBlock ∧ some k_ ≠ (.slice Ao93 t907.length co93 : Value).ownBlock ∧ some k_ ≠ (.slice Ao118 t883.length co118 : Value).ownBlock) (.slice Ao105 t909.length co105) t909) ∧ (Kd.R (Kd.int .i64) 2 w' w.heap.size (fun k_ => some k_ ≠ (s_.1 : Value).ownBlock ∧ some k_ ≠ (s_.2.1 : Value).ownBlock ∧ some k_ ≠ (s_.2.2.1 : Value).ownBlock ∧ some k_ ≠ (s_.2.2.2 : Value).ownBlock ∧ some k_ ≠ (.slice Ao71 t862.length co71 : Value).ownBlock ∧ some k_ ≠ (.slice Ao82 t905.length co82 : Value).ownBlock ∧ some k_ ≠ (.slice Ao93 t907.length co93 : Value).ownBlock ∧ some k_ ≠ (.slice Ao105 t909.length co105 : Value).ownBlock) (.slice Ao118 t883.length co118) t912) ∧ (w'.heap[gb843]? = some (.cells #[.int .i64 a0_0, .slice A0_1 l0_1.length c0_1] 55 (0, 0))) ∧ (w'.heap[gb844]? = some (.cells #[.int .i64 a1_0, .slice A1_1 l1_1.length c1_1] 55 (0, 0))) ∧ (w'.heap[gb845]? = some (.cells #[.int .i64 a2_0, .slice A2_1 l2_1.length c2_1] 55 (0, 0))) ∧ (w'.heap[gb866]? = some (.cells #[.int .i64 t861, .slice Ao71 t862.length co71] 27 (0, 0))) ∧ (w'.heap[gb871]? = some (.cells #[.int .i64 t867, .slice Ao82 t905.length co82] 27 (0, 0))) ∧ (w'.heap[gb876]? = some (.cells #[.int .i64 t872, .slice Ao93 t907.length co93] 27 (0, 0))) ∧ (w'.heap[gb881]? = some (.cells #[.int .i64 t877, .slice Ao105 t909.length co105] 27 (0, 0))) ∧ (w'.heap[gb887]? = some (.cells #[.int .i64 t882, .slice Ao118 t883.length co118] 27 (0, 0))) ∧ (Below w.heap.size w w')) ?_ ?_
  rotate_left
  ·revert k a0_0 A0_1 c0_1 l0_1 a1_0 A1_1 c1_1 l1_1 a2_0 A2_1 c2_1 l2_1 r w hu55 hu27 HR0_1 HC0_1 HR1_1 HC1_1 HR2_1 HC2_1 za_2_0 t846 A4 za_2_1 c5b0 t847 A13 za_2_2 c14b0 t848 A25 za_2_3 c26b0 t849 t850 A39 za_2_4 t853 t854 A40 za_2_5 t857 t858 A41 za_2_6 t861 t862 t865 A42 za_2_7 t867 t868 A43 za_2_8 t872 t873 A44 za_2_9 t877 t878 A45 zf_1_0 t882 t883 t886 A46 za_2_10 gb843 w48 GW843 GE843 gb844 w49 GW844 GE844 NB843_844 NB844_843 gb845 w50 GW845 GE845 NB843_845 NB845_843 NB844_845 NB845_844 hnb51 hnc51 hnb52 hnc52 hcz53_0 hcz53_1 hfz53_0 hfz53_1 w54 hnb55 hnc55 hcz56_0 hcz56_1 hfz56_0 hfz56_1 w57 hcz58_0 hcz58_1 hfz58_0 hfz58_1 w59 zh_0_0 zh_0_1 w60 za_2_11 v851 v855 v859 gb866 w69 hS_ GW866 GE866 NB843_866 NB866_843 NB844_866 NB866_844 NB845_866 NB866_845 za_2_12 Ao71 co71 hs70 hfs70 hns70_0 hns70_1 hns70_2 hms70_0 hms70_1 hms70_2 hs72 hfs72 hns72_0 hns72_1 hns72_2 hms72_0 hms72_1 hms72_2 zf_1_1 hnb73 hnc73 w75 gb871 w76 GW871 GE871 NB843_871 NB871_843 NB844_871 NB871_844 NB845_871 NB871_845 NB866_871 NB871_866 hnb77 hnc77 hnb78 hnc78 hnb79 hnc79 hnb80 hnc80 Ao82 co82 hnb83 hnc83 w85 gb876 w86 GW876 GE876 NB843_876 NB876_843 NB844_876 NB876_844 NB845_876 NB876_845 NB866_876 NB876_866 NB871_876 NB876_871 hnb87 hnc87 hnb88 hnc88 hnb89 hnc89 hnb90 hnc90 hnb91 hnc91 Ao93 co93 hnb94 hnc94 w96 gb881 w97 GW881 GE881 NB843_881 NB881_843 NB844_881 NB881_844 NB845_881 NB881_845 NB866_881 NB881_866 NB871_881 NB881_871 NB876_881 NB881_876 hnb98 hnc98 hnb99 hnc99 hnb100 hnc100 hnb101 hnc101 hnb102 hnc102 hnb103 hnc103 Ao105 co105 w108 gb887 w109 zf_1_2 zf_1_3 zf_1_4 zf_1_5 zf_1_6 zf_1_7 zf_1_8 zf_1_9 zf_1_10 GW887 GE887 NB843_887 NB887_843 NB844_887 NB887_844 NB845_887 NB887_845 NB866_887 NB887_866 NB871_887 NB887_871 NB876_887 NB887_876 NB881_887 NB887_881 hnb110 hnc110 hnb111 hnc111 hnb112 hnc112 hnb113 hnc113 hnb114 hnc114 hnb115 hnc115 hnb116 hnc116 Ao118 co118 HO852 HO856 HO860 HO864 HO870 HO875 HO880 HO885 zf_1_11 zf_1_12 zf_1_13 zf_1_14 zf_1_15 zf_1_16 zf_1_17 zf_1_18 zf_1_19 zf_1_20 zf_1_21 zf_1_22 zf_1_23 zf_1_24 zf_1_25 zf_1_26 zf_1_27 zf_1_28 zf_1_29 zf_1_30 zf_1_31 zf_1_32 zf_1_33 zf_1_34 zf_1_35 zf_1_36 zf_1_37 zf_1_38 zf_1_39 zf_1_40 zf_1_41 zf_1_42 zf_1_43 zf_1_44 zf_1_45 zf_1_46 zf_1_47 zf_1_48 zf_1_49 zf_1_50 zf_1_51 zf_1_52 zf_1_53 zf_1_54 zf_1_55 zf_1_56 zf_1_57 zf_1_58 zf_1_59 zf_1_60 zf_1_61 zf_1_62 zf_1_63 zf_1_64 zf_1_65 zf_1_66 zf_1_67 zf_1_68 zf_1_69 zf_1_70 zf_1_71 zf_1_72 zf_1_73 zf_1_74 zf_1_75 zf_1_76 zf_1_77 zf_1_78 zf_1_79 zf_1_80 zf_1_81 zf_1_82 zf_1_83 zf_1_84 zf_1_85 zf_1_86 zf_1_87 zf_1_88 zf_1_89 zf_1_90 zf_1_91 zf_1_92 zf_1_93 zf_1_94 zf_1_95 zf_1_96 zf_1_97 zf_1_98 zf_1_99 zf_1_100 zf_1_101 zf_1_102 zf_1_103 zf_1_104 zf_1_105 zf_1_106 zf_1_107 zf_1_108 zf_1_109 zf_1_110 zf_1_111 zf_1_112 zf_1_113 zf_1_114 zf_1_115 zf_1_116 zf_1_117 zf_1_118 zf_1_119 zf_1_120 zf_1_121 zf_1_122 zf_1_123 zf_1_124 zf_1_125 zf_1_126 zf_1_127 zf_1_128 zf_1_129 zf_1_130 zf_1_131 zf_1_132 kj46 HJ46 zf_1_133 t889 t890 A154 zf_1_134 A155 zf_1_135 t894 t895 A157 zf_1_136 A158 zf_1_137 t899 t900 A160 zf_1_138 A161 zf_1_139 t904 t905 A163 zf_1_140 t906 t907 A164 zh_0_2 t908 t909 A165 w167 zf_1_141 w168 Ao169 co169 zf_1_142 w170 zf_1_143 w171 zf_1_144 w172 Ao173 co173 zf_1_145 w174 zf_1_146 w175 zf_1_147 w176 Ao177 co177 zf_1_148 w178 zh_0_3 hnb179 hnc179 hnb180 hnc180 hnb181 hnc181 hnb182 hnc182 hnb183 hnc183 hnb184 hnc184 hnb185 hnc185 w187 hnb188 hnc188 hnb189 hnc189 hnb190 hnc190 hnb191 hnc191 hnb192 hnc192 hnb193 hnc193 w195 hnb196 hnc196 hnb197 hnc197 hnb198 hnc198 hnb199 hnc199 hnb200 hnc200 w202 zh_0_4 zh_0_5 zh_0_6 zh_0_7 zh_0_8 zh_0_9 zh_0_10 zh_0_11 zh_0_12 zh_0_13 zh_0_14 zh_0_15 zh_0_16 HO892 HO897 HO902 zh_0_17 wc u20 u21 u22 u23 u24 u25 u26 u27 u28 u29 u30 u31 u32 u33 u34 u35 u36 u37 u38 u39 u40 u41 u42 u43 u44 u45 u46 u47 u48 u49 u50 u51 u52 u53 u54 u55 u56 u57 u58 u59 u60 u61 u62 u63 u64 u65 u66 u67 u68 u69 u70 u71 u72 u73 u74 u75 u76 u77 u78 u79 u80 u81 u82 u83 u84 u85 u86 u87 u88 u89 u90 u91 u92 u93 u94 u95 u96 u97 u98 u99 u100 u101 u102 u104 u105 u106 u107 u108 u109 u110 u111 u112 u113 u114 u115 u116 u117 u118 u119 u120 u121 u122 u123 u124 u125 u126 u127 u128 u129 u130 u131 u132 u133 u134 u135 u136 u137 u138 u139 u140 u141 hl872001_165 hl877001_165 hl882001_165 kj165 HJ165 zh_0_18 t911 t912 A239 zh_0_19 t913 A240 zh_0_20 c241b0 c253b0 c253b1 t914 t915 A254 zh_0_21 t918 t919 A255 zh_0_22 t922 t923 A256 H t926 t927 t930 A257 HC258 hnb259 hnc259 hnb260 hnc260 hnb261 hnc261 hnb262 hnc262 hnb263 hnc263 hnb264 hnc264 hnb265 hnc265 hcz266_0 hcz266_1 hfz266_0 hfz266_1 w267 hcz268_0 hcz268_1 hfz268_0 hfz268_1 w269 zh_0_23 zh_0_24 HT_ HW_ w270 HO_867001 HO_872001 HO_877001 HO_882001 HO_888001 BK843 BK844 BK845 BK866 BK871 BK876 BK881 BK887 HB hHeld hJ1_3_5_6_10
   exact hG0_.out
  skip
  rintro ⟨v916, v920, v924, v928⟩ w278 ⟨hS_, h0_, h1_, h2_, h3_, h4_, h5_, h6_, h7_, h8_, h9_, h10_, h11_, h12_, h13_, h14_, h15_, h16_, h17_⟩
  have n0_ : Aq (Kd.R (Kd.int .i64) 2 w278 w.heap.size (fun k_ => some k_ ≠ (v920 : Value).ownBlock ∧ some k_ ≠ (v924 : Value).ownBlock ∧ some k_ ≠ (v928 : Value).ownBlock ∧ some k_ ≠ (.slice Ao71 t862.length co71 : Value).ownBlock ∧ some k_ ≠ (.slice Ao82 t905.length co82 : Value).ownBlock ∧ some k_ ≠ (.slice Ao93 t907.length co93 : Value).ownBlock ∧ some k_ ≠ (.slice Ao105 t909.length co105 : Value).ownBlock ∧ some k_ ≠ (.slice Ao118 t883.length co118 : Value).ownBlock) v916 t915) := ⟨h0_⟩
  have n1_ : Aq (Kd.R (Kd.int .i64) 2 w278 w.heap.size (fun k_ => some k_ ≠ (v916 : Value).ownBlock ∧ some k_ ≠ (v924 : Value).ownBlock ∧ some k_ ≠ (v928 : Value).ownBlock ∧ some k_ ≠ (.slice Ao71 t862.length co71 : Value).ownBlock ∧ some k_ ≠ (.slice Ao82 t905.length co82 : Value).ownBlock ∧ some k_ ≠ (.slice Ao93 t907.length co93 : Value).ownBlock ∧ some k_ ≠ (.slice Ao105 t909.length co105 : Value).ownBlock ∧ some k_ ≠ (.slice Ao118 t883.length co118 : Value).ownBlock) v920 t919) := ⟨h1_⟩
  have n2_ : Aq (Kd.R (Kd.int .i64) 2 w278 w.heap.size (fun k_ => some k_ ≠ (v916 : Value).ownBlock ∧ some k_ ≠ (v920 : Value).ownBlock ∧ some k_ ≠ (v928 : Value).ownBlock ∧ some k_ ≠ (.slice Ao71 t862.length co71 : Value).ownBlock ∧ some k_ ≠ (.slice Ao82 t905.length co82 : Value).ownBlock ∧ some k_ ≠ (.slice Ao93 t907.length co93 : Value).ownBlock ∧ some k_ ≠ (.slice Ao105 t909.length co105 : Value).ownBlock ∧ some k_ ≠ (.slice Ao118 t883.length co118 : Value).ownBlock) v924 t923) := ⟨h2_⟩
  have n3_ : Aq (Kd.R (Kd.int .i64) 2 w278 w.heap.size (fun k_ => some k_ ≠ (v916 : Value).ownBlock ∧ some k_ ≠ (v920 : Value).ownBlock ∧ some k_ ≠ (v924 : Value).ownBlock ∧ some k_ ≠ (.slice Ao71 t862.length co71 : Value).ownBlock ∧ some k_ ≠ (.slice Ao82 t905.length co82 : Value).ownBlock ∧ some k_ ≠ (.slice Ao93 t907.length co93 : Value).ownBlock ∧ some k_ ≠ (.slice Ao105 t909.length co105 : Value).ownBlock ∧ some k_ ≠ (.slice Ao118 t883.length co118 : Value).ownBlock) v928 t927) := ⟨h3_⟩
  have n4_ : Aq (Kd.R (Kd.int .i64) 2 w278 w.heap.size (fun k_ => some k_ ≠ (v916 : Value).ownBlock ∧ some k_ ≠ (v920 : Value).ownBlock ∧ some k_ ≠ (v924 : Value).ownBlock ∧ some k_ ≠ (v928 : Value).ownBlock ∧ some k_ ≠ (.slice Ao82 t905.length co82 : Value).ownBlock ∧ some k_ ≠ (.slice Ao93 t907.length co93 : Value).ownBlock ∧ some k_ ≠ (.slice Ao105 t909.length co105 : Value).ownBlock ∧ some k_ ≠ (.slice Ao118 t883.length co118 : Value).ownBlock) (.slice Ao71 t862.length co71) t862) := ⟨h4_⟩
  have n5_ : Aq (Kd.R (Kd.int .i64) 2 w278 w.heap.size (fun k_ => some k_ ≠ (v916 : Value).ownBlock ∧ some k_ ≠ (v920 : Value).ownBlock ∧ some k_ ≠ (v924 : Value).ownBlock ∧ some k_ ≠ (v928 : Value).ownBlock ∧ some k_ ≠ (.slice Ao71 t862.length co71 : Value).ownBlock ∧ some k_ ≠ (.slice Ao93 t907.length co93 : Value).ownBlock ∧ some k_ ≠ (.slice Ao105 t909.length co105 : Value).ownBlock ∧ some k_ ≠ (.slice Ao118 t883.length co118 : Value).ownBlock) (.slice Ao82 t905.length co82) t905) := ⟨h5_⟩
  have n6_ : Aq (Kd.R (Kd.int .i64) 2 w278 w.heap.size (fun k_ => some k_ ≠ (v916 : Value).ownBlock ∧ some k_ ≠ (v920 : Value).ownBlock ∧ some k_ ≠ (v924 : Value).ownBlock ∧ some k_ ≠ (v928 : Value).ownBlock ∧ some k_ ≠ (.slice Ao71 t862.length co71 : Value).ownBlock ∧ some k_ ≠ (.slice Ao82 t905.length co82 : Value).ownBlock ∧ some k_ ≠ (.slice Ao105 t909.length co105 : Value).ownBlock ∧ some k_ ≠ (.slice Ao118 t883.length co118 : Value).ownBlock) (.slice Ao93 t907.length co93) t907) := ⟨h6_⟩
  have n7_ : Aq (Kd.R (Kd.int .i64) 2 w278 w.heap.size (fun k_ => some k_ ≠ (v916 : Value).ownBlock ∧ some k_ ≠ (v920 : Value).ownBlock ∧ some k_ ≠ (v924 : Value).ownBlock ∧ some k_ ≠ (v928 : Value).ownBlock ∧ some k_ ≠ (.slice Ao71 t862.length co71 : Value).ownBlock ∧ some k_ ≠ (.slice Ao82 t905.length co82 : Value).ownBlock ∧ some k_ ≠ (.slice Ao93 t907.length co93 : Value).ownBlock ∧ some k_ ≠ (.slice Ao118 t883.length co118 : Value).ownBlock) (.slice Ao105 t909.length co105) t909) := ⟨h7_⟩
  have n8_ : Aq (Kd.R (Kd.int .i64) 2 w278 w.heap.size (fun k_ => some k_ ≠ (v916 : Value).ownBlock ∧ some k_ ≠ (v920 : Value).ownBlock ∧ some k_ ≠ (v924 : Value).ownBlock ∧ some k_ ≠ (v928 : Value).ownBlock ∧ some k_ ≠ (.slice Ao71 t862.length co71 : Value).ownBlock ∧ some k_ ≠ (.slice Ao82 t905.length co82 : Value).ownBlock ∧ some k_ ≠ (.slice Ao93 t907.length co93 : Value).ownBlock ∧ some k_ ≠ (.slice Ao105 t909.length co105 : Value).ownBlock) (.slice Ao118 t883.length co118) t912) := ⟨h8_⟩
  have n9_ : Aq (w278.heap[gb843]? = some (.cells #[.int .i64 a0_0, .slice A0_1 l0_1.length c0_1] 55 (0, 0))) := ⟨h9_⟩
  have n10_ : Aq (w278.heap[gb844]? = some (.cells #[.int .i64 a1_0, .slice A1_1 l1_1.length c1_1] 55 (0, 0))) := ⟨h10_⟩
  have n11_ : Aq (w278.heap[gb845]? = some (.cells #[.int .i64 a2_0, .slice A2_1 l2_1.length c2_1] 55 (0, 0))) := ⟨h11_⟩
  have n12_ : Aq (w278.heap[gb866]? = some (.cells #[.int .i64 t861, .slice Ao71 t862.length co71] 27 (0, 0))) := ⟨h12_⟩
  have n13_ : Aq (w278.heap[gb871]? = some (.cells #[.int .i64 t867, .slice Ao82 t905.length co82] 27 (0, 0))) := ⟨h13_⟩
  have n14_ : Aq (w278.heap[gb876]? = some (.cells #[.int .i64 t872, .slice Ao93 t907.length co93] 27 (0, 0))) := ⟨h14_⟩
  have n15_ : Aq (w278.heap[gb881]? = some (.cells #[.int .i64 t877, .slice Ao105 t909.length co105] 27 (0, 0))) := ⟨h15_⟩
  have n16_ : Aq (w278.heap[gb887]? = some (.cells #[.int .i64 t882, .slice Ao118 t883.length co118] 27 (0, 0))) := ⟨h16_⟩
  have n17_ : Aq (Below w.heap.size w w278) := ⟨h17_⟩
  clear HO_867001
  clear HO_872001
  clear HO_877001
  clear HO_882001
  clear HO_888001
  clear BK843
  clear BK844
  clear BK845
  clear BK866
  clear BK871
  clear BK876
  clear BK881
  clear BK887
  clear HB
  clear h0_ h1_ h2_ h3_ h4_ h5_ h6_ h7_ h8_ h9_ h10_ h11_ h12_ h13_ h14_ h15_ h16_ h17_
  have HO917 := n0_
  have HO921 := n1_
  have HO925 := n2_
  have HO929 := n3_
  have HO_867001 := n4_
  have HO_872001 := n5_
  have HO_877001 := n6_
  have HO_882001 := n7_
  have HO_888001 := n8_
  have BK843 := n9_
  have BK844 := n10_
  have BK845 := n11_
  have BK866 := n12_
  have BK871 := n13_
  have BK876 := n14_
  have BK881 := n15_
  have BK887 := n16_
  have HB := n17_
  clear n0_ n1_ n2_ n3_ n4_ n5_ n6_ n7_ n8_ n9_ n10_ n11_ n12_ n13_ n14_ n15_ n16_ n17_
  have hHeld : w278.cell? ⟨gb843, 0, none⟩ = some (.int .i64 a0_0) ∧ w278.cell? ⟨gb843, 1, none⟩ = some (.slice A0_1 l0_1.length c0_1) ∧ w278.cell? ⟨gb844, 0, none⟩ = some (.int .i64 a1_0) ∧ w278.cell? ⟨gb844, 1, none⟩ = some (.slice A1_1 l1_1.length c1_1) ∧ w278.cell? ⟨gb845, 0, none⟩ = some (.int .i64 a2_0) ∧ w278.cell? ⟨gb845, 1, none⟩ = some (.slice A2_1 l2_1.length c2_1) := hS_
  refine norm_ (a' := ?_) ?_ ?_
  rotate_left
  ·simp only [putAll, Act.put, qSa, qSb, qSc]
   rfl
  refine one_ (i := 10) (N := some 18) (bm 13 2047) rfl rfl (one_of HT_.out (by kernel_rfl)) (by decide) (fun K hK => ?_)
  refine box_step ?hg (N := 18) ?hd (cs := #[.int .i64 0, .slice none 0 0]) (t := 27) ?hr ?_; (case hd => rfl); (case hg => rfl); (case hr => exact tH)
  intro gb931 hg w279 hbox hb
  have n0_ := Aq.mk (Kd.R_below (tR HO_867001.out) hb)
  have n1_ := Aq.mk (Kd.R_below (tR HO_872001.out) hb)
  have n2_ := Aq.mk (Kd.R_below (tR HO_877001.out) hb)
  have n3_ := Aq.mk (Kd.R_below (tR HO_882001.out) hb)
  have n4_ := Aq.mk (Kd.R_below (tR HO_888001.out) hb)
  have n5_ := Aq.mk (Kd.R_below (tR HO917.out) hb)
  have n6_ := Aq.mk (Kd.R_below (tR HO921.out) hb)
  have n7_ := Aq.mk (Kd.R_below (tR HO925.out) hb)
  have n8_ := Aq.mk (Kd.R_below (tR HO929.out) hb)
  have n9_ := Aq.mk (tQ BK843.out hb)
  have n10_ := Aq.mk (tQ BK844.out hb)
  have n11_ := Aq.mk (tQ BK845.out hb)
  have n12_ := Aq.mk (tQ BK866.out hb)
  have n13_ := Aq.mk (tQ BK871.out hb)
  have n14_ := Aq.mk (tQ BK876.out hb)
  have n15_ := Aq.mk (tQ BK881.out hb)
  have n16_ := Aq.mk (tQ BK887.out hb)
  have n17_ := Aq.mk (bQT tB hb)
  have n18_ := Aq.mk (hbox)
  have n19_ := Aq.mk (tZ w hg)
  have n20_ := Aq.mk (tZ w hg)
  have n21_ := Aq.mk ((by rw [hg]; exact Nat.ne_of_lt (blk_lt (g := gb843) (o := .cells #[.int .i64 a0_0, .slice A0_1 l0_1.length c0_1] 55 (0, 0)) (tG BK843.out)) : gb843 ≠ gb931))
  have n22_ := Aq.mk ((by rw [hg]; exact Nat.ne_of_gt (blk_lt (g := gb843) (o := .cells #[.int .i64 a0_0, .slice A0_1 l0_1.length c0_1] 55 (0, 0)) (tG BK843.out)) : gb931 ≠ gb843))
  have n23_ := Aq.mk ((by rw [hg]; exact Nat.ne_of_lt (blk_lt (g := gb844) (o := .cells #[.int .i64 a1_0, .slice A1_1 l1_1.length c1_1] 55 (0, 0)) (tG BK844.out)) : gb844 ≠ gb931))
  have n24_ := Aq.mk ((by rw [hg]; exact Nat.ne_of_gt (blk_lt (g := gb844) (o := .cells #[.int .i64 a1_0, .slice A1_1 l1_1.length c1_1] 55 (0, 0)) (tG BK844.out)) : gb931 ≠ gb844))
  have n25_ := Aq.mk ((by rw [hg]; exact Nat.ne_of_lt (blk_lt (g := gb845) (o := .cells #[.int .i64 a2_0, .slice A2_1 l2_1.length c2_1] 55 (0, 0)) (tG BK845.out)) : gb845 ≠ gb931))
  have n26_ := Aq.mk ((by rw [hg]; exact Nat.ne_of_gt (blk_lt (g := gb845) (o := .cells #[.int .i64 a2_0, .slice A2_1 l2_1.length c2_1] 55 (0, 0)) (tG BK845.out)) : gb931 ≠ gb845))
  have n27_ := Aq.mk ((by rw [hg]; exact Nat.ne_of_lt (blk_lt (g := gb866) (o := .cells #[.int .i64 t861, .slice Ao71 t862.length co71] 27 (0, 0)) (tG BK866.out)) : gb866 ≠ gb931))
  have n28_ := Aq.mk ((by rw [hg]; exact Nat.ne_of_gt (blk_lt (g := gb866) (o := .cells #[.int .i64 t861, .slice Ao71 t862.length co71] 27 (0, 0)) (tG BK866.out)) : gb931 ≠ gb866))
  have n29_ := Aq.mk ((by rw [hg]; exact Nat.ne_of_lt (blk_lt (g := gb871) (o := .cells #[.int .i64 t867, .slice Ao82 t905.length co82] 27 (0, 0)) (tG BK871.out)) : gb871 ≠ gb931))
  have n30_ := Aq.mk ((by rw [hg]; exact Nat.ne_of_gt (blk_lt (g := gb871) (o := .cells #[.int .i64 t867, .slice Ao82 t905.length co82] 27 (0, 0)) (tG BK871.out)) : gb931 ≠ gb871))
  have n31_ := Aq.mk ((by rw [hg]; exact Nat.ne_of_lt (blk_lt (g := gb876) (o := .cells #[.int .i64 t872, .slice Ao93 t907.length co93] 27 (0, 0)) (tG BK876.out)) : gb876 ≠ gb931))
  have n32_ := Aq.mk ((by rw [hg]; exact Nat.ne_of_gt (blk_lt (g := gb876) (o := .cells #[.int .i64 t872, .slice Ao93 t907.length co93] 27 (0, 0)) (tG BK876.out)) : gb931 ≠ gb876))
  have n33_ := Aq.mk ((by rw [hg]; exact Nat.ne_of_lt (blk_lt (g := gb881) (o := .cells #[.int .i64 t877, .slice Ao105 t909.length co105] 27 (0, 0)) (tG BK881.out)) : gb881 ≠ gb931))
  have n34_ := Aq.mk ((by rw [hg]; exact Nat.ne_of_gt (blk_lt (g := gb881) (o := .cells #[.int .i64 t877, .slice Ao105 t909.length co105] 27 (0, 0)) (tG BK881.out)) : gb931 ≠ gb881))
  have n35_ := Aq.mk ((by rw [hg]; exact Nat.ne_of_lt (blk_lt (g := gb887) (o := .cells #[.int .i64 t882, .slice Ao118 t883.length co118] 27 (0, 0)) (tG BK887.out)) : gb887 ≠ gb931))
  have n36_ := Aq.mk ((by rw [hg]; exact Nat.ne_of_gt (blk_lt (g := gb887) (o := .cells #[.int .i64 t882, .slice Ao118 t883.length co118] 27 (0, 0)) (tG BK887.out)) : gb931 ≠ gb887))
  clear HO_867001
  clear HO_872001
  clear HO_877001
  clear HO_882001
  clear HO_888001
  clear HO917
  clear HO921
  clear HO925
  clear HO929
  clear BK843
  clear BK844
  clear BK845
  clear BK866
  clear BK871
  clear BK876
  clear BK881
  clear BK887
  clear HB
  have HO_867001 := n0_
  have HO_872001 := n1_
  have HO_877001 := n2_
  have HO_882001 := n3_
  have HO_888001 := n4_
  have HO917 := n5_
  have HO921 := n6_
  have HO925 := n7_
  have HO929 := n8_
  have BK843 := n9_
  have BK844 := n10_
  have BK845 := n11_
  have BK866 := n12_
  have BK871 := n13_
  have BK876 := n14_
  have BK881 := n15_
  have BK887 := n16_
  have HB := n17_
  have BK931 := n18_
  have GW931 := n19_
  have GE931 := n20_
  have NB843_931 := n21_
  have NB931_843 := n22_
  have NB844_931 := n23_
  have NB931_844 := n24_
  have NB845_931 := n25_
  have NB931_845 := n26_
  have NB866_931 := n27_
  have NB931_866 := n28_
  have NB871_931 := n29_
  have NB931_871 := n30_
  have NB876_931 := n31_
  have NB931_876 := n32_
  have NB881_931 := n33_
  have NB931_881 := n34_
  have NB887_931 := n35_
  have NB931_887 := n36_
  clear n0_ n1_ n2_ n3_ n4_ n5_ n6_ n7_ n8_ n9_ n10_ n11_ n12_ n13_ n14_ n15_ n16_ n17_ n18_ n19_ n20_ n21_ n22_ n23_ n24_ n25_ n26_ n27_ n28_ n29_ n30_ n31_ n32_ n33_ n34_ n35_ n36_
  clear hb hbox hg
  refine hK.out _ _ ⟨(kQC BK843.out 0).trans rfl, (kQC BK843.out 1).trans rfl, (kQC BK844.out 0).trans rfl, (kQC BK844.out 1).trans rfl, (kQC BK845.out 0).trans rfl, (kQC BK845.out 1).trans rfl⟩ (fun hHeld => ?_)
  clear hK K
  refine tN 18 ?_
  exact norm_ (by first | (simp only [putAll, Act.put, qSa, qSb, qSc]; done) | (simp only [putAll, Act.put, qSa, qSb, qSc]; rfl)) (hJ1_3_5_6_10 (v916, v920, v924, v928, gb931) _ ⟨hHeld, (tR HO917.out), (tR HO921.out), (tR HO925.out), (tR HO929.out), (tR HO_867001.out), (tR HO_872001.out), (tR HO_877001.out), (tR HO_882001.out), (tR HO_888001.out), (tG BK843.out), (tG BK844.out), (tG BK845.out), (tG BK866.out), (tG BK871.out), (tG BK876.out), (tG BK881.out), (tG BK887.out), (tG BK931.out), GW931.out, GE931.out, NB843_931.out, NB931_843.out, NB844_931.out, NB931_844.out, NB845_931.out, NB931_845.out, NB866_931.out, NB931_866.out, NB871_931.out, NB931_871.out, NB876_931.out, NB931_876.out, NB881_931.out, NB931_881.out, NB887_931.out, NB931_887.out, tB⟩)
end Go.Proofs.Ythjfilmdobkmlaa.P
