/- Functions of the program and what they tell, as the printing program wrote it. -/
import Derived.Test.YthjfilmdobkmlaaPx0
import Derived.Test.YthjfilmdobkmlaaPx4
import Derived.Test.YthjfilmdobkmlaaPx7
import Derived.Test.YthjfilmdobkmlaaPx9
import Derived.Test.YthjfilmdobkmlaaPx13
import Derived.Test.YthjfilmdobkmlaaPx15
import Derived.Test.YthjfilmdobkmlaaPx17
import Derived.Test.YthjfilmdobkmlaaPx18
import Derived.Test.YthjfilmdobkmlaaPx19
import Derived.Test.YthjfilmdobkmlaaPx40a
namespace Go.Proofs.Ythjfilmdobkmlaa.P
open Go.Shelf Go.RowKit Go.Proofs.YthjfilmdobkmlaaW.PrintWords Go.Proofs.YthjfilmdobkmlaaW.PrintLast Go.Proofs.YthjfilmdobkmlaaW.PrintMore
attribute [local go_sem] max2_int min2_int max_two min_two max_three min_three max_four min_four
set_option linter.unusedVariables false
set_option linter.unusedSimpArgs false
set_option maxHeartbeats 8000000
set_option maxRecDepth 100000
noncomputable def laws_FnRanks.G4 : (G0_ : Prop) ×' (laws_FnRanks.W G0_ → laws_FnRanks.G0.2.2.2.1) := by
 constructor
 ·intro hG0_
  intro k A0 c0 l0 A1 c1 l1 r w hu27 HR0 HC0 HR1 HC1 za_3_0 A3 za_3_1 t338 A5 za_3_2 t339 t340 A6 za_3_3 t344 t345 A7 za_3_4 t346 t347 t350 A8 za_3_5 t352 t353 t356 A9 za_3_6 za_3_7 za_3_8 nd w11 gb343 w12 GW343 GE343 Ao14 co14 w15 w17 gb351 w18 GW351 GE351 NB343_351 NB351_343 hnb19 hnc19 Ao21 co21 w23 gb357 w24 za_3_9 za_3_10 za_3_11 za_3_12 GW357 GE357 NB343_357 NB357_343 NB351_357 NB357_351 hnb25 hnc25 hnb26 hnc26 Ao28 co28 HO342 HO349 HO355 wc u41 u42 u43 u44 u45 u46 u47 u48 u49 u50 u51 u52 u53 u54 u55 u56 u57 u58 u59 u60 u61 u62 u63 u64 u65 u66 u67 u68 u69 u70 u71 u72 u73 u74 u75 u76 u77 u78 u79 u80 u81 u82 u83 u84 u85 u86 u87 u88 u89 u90 u91 u92 u93 u94 u95 u96 za_3_13 za_3_14 za_3_15 za_3_16 za_3_17 za_3_18 za_3_19 za_3_20 za_3_21 za_3_22 za_3_23 za_3_24 za_3_25 za_3_26 za_3_27 za_3_28 za_3_29 za_3_30 za_3_31 za_3_32 za_3_33 za_3_34 za_3_35 za_3_36 za_3_37 za_3_38 za_3_39 za_3_40 za_3_41 za_3_42 za_3_43 za_3_44 za_3_45 za_3_46 za_3_47 za_3_48 za_3_49 za_3_50 za_3_51 za_3_52 za_3_53 za_3_54 za_3_55 za_3_56 za_3_57 za_3_58 za_3_59 za_3_60 za_3_61 za_3_62 za_3_63 za_3_64 za_3_65 za_3_66 za_3_67 za_3_68 za_3_69 za_3_70 za_3_71 za_3_72 za_3_73 za_3_74 za_3_75 za_3_76 za_3_77 za_3_78 za_3_79 za_3_80 za_3_81 za_3_82 za_3_83 za_3_84 za_3_85 za_3_86 za_3_87 za_3_88 za_3_89 za_3_90 u176 u177 u178 u179 u180 u181 u182 u183 u184 u185 u186 u187 u188 u189 u190 u191 u192 u193 za_3_91 za_3_92 za_3_93 za_3_94 za_3_95 za_3_96 za_3_97 za_3_98 za_3_99 za_3_100 za_3_101 za_3_102 za_3_103 za_3_104 za_3_105 za_3_106 za_3_107 u211 u212 u213 u214 u215 u216 u217 u218 u219 u220 u221 u222 u223 u224 u225 u226 u227 u228 u229 u230 u231 u232 u233 u234 u235 u236 u237 u238 u239 u240 u241 u242 u243 u244 u245 u246 u247 u248 u249 u250 u251 u252 u253 u254 u255 u256 u257 u258 u259 u260 u261 u262 u263 u264 u265 u266 u267 u268 u269 u270 u271 u272 u273 u274 u275 u276 u277 u278 u279 u280 u281 u282 u283 u284 u285 u286 u287 u288 u289 u290 u291 u292 u293 u294 u295 u296 u297 u298 u299 u300 u301 u302 u303 u304 u305 u306 u307 u308 u309 u310 u311 u312 u313 u314 u315 za_3_108 za_3_109 za_3_110 za_3_111 za_3_112 za_3_113 za_3_114 kj9 HJ9 za_3_115 za_3_116 za_3_117 u14 u15 u16 u17 u98 u99 u100 u101 u102 u103 u104 u105 u106 u107 u108 u109 u110 u111 u112 u113 u114 u115 u116 u117 u118 u119 u120 u121 u122 u123 u124 u125 u126 u127 u128 u129 u130 u131 u132 u133 u134 u135 u136 u137 u138 u139 u140 u141 u142 u143 u144 u145 u146 u147 u148 u149 u150 u151 u152 u153 u154 u155 u156 za_3_118 za_3_119 za_3_120 x13_2 za_3_121 za_3_122 za_3_123 za_3_124 za_3_125 za_3_126 za_3_127 k2 za_3_128 HK2 hnb109 hnc109 hnb110 hnc110 za_3_129 za_3_130 za_3_131 za_3_132 u4 u19 u20 u157 u158 u159 u160 u161 u162 u163 u164 u165 u166 u167 u168 u169 u170 u171 u172 u173 u174 u175 za_3_133 za_3_134 za_3_135 x18_3 k3 za_3_136 HK3 za_3_137 c112b0 c126 c126b0 c126b1 c126b2 t369 t370 t373 A132 H t375 t376 A133 H' hnb134 hnc134 hnb135 hnc135 hcz136_0 hcz136_1 hfz136_0 hfz136_1 hnb137 hnc137 hcz138_0 hcz138_1 hfz138_0 hfz138_1 za_3_138 za_3_139 w139 gb374 w140 GW374 GE374 NB343_374 NB374_343 NB351_374 NB374_351 NB357_374 NB374_357 hnb141 hnc141 hnb142 hnc142 hnb143 hnc143 hcz144_0 hcz144_1 hfz144_0 hfz144_1 Ao145 co145 w146 gb377 w147 HO_344001 HO_352001 HO_358001 HO372 BK343 BK351 BK357 BK374 HB BK377 GW377 GE377 NB343_377 NB377_343 NB351_377 NB377_351 NB357_377 NB377_357 NB374_377 NB377_374 hnb148 hnc148 hnb149 hnc149 hnb150 hnc150 hnb151 hnc151 hcz152_0 hcz152_1 hfz152_0 hfz152_1 za_3_140 za_3_141 gk wr u26 u194 u195 u196 u197 u198 u199 u200 u201 u202 u203 u204 u205 u206 u207 u208 u209 u210 hrel za_3_142 za_3_143 za_3_144 za_3_145
  clear H'
  try clear c1
  try clear c65
  try clear c66
  try clear c66b0
  try clear c67
  try clear c67b0
  try clear c75
  try clear c75b0
  try clear c75b1
  try clear c76
  try clear c76b0
  try clear c78
  try clear c78b0
  try clear c78b1
  try clear c83
  try clear c84
  try clear c84b0
  try clear c86
  try clear c86b0
  try clear c86b1
  try clear c88
  try clear c88b0
  try clear c88b1
  try clear c89
  try clear c89b0
  try clear c96
  try clear c96b0
  try clear c97
  try clear c97b0
  try clear c98
  try clear c98b0
  try clear c98b1
  try clear c112
  try clear c112b0
  try clear c113
  try clear c113b0
  try clear c115
  try clear c115b0
  try clear c115b1
  try clear c126
  try clear c126b0
  try clear c126b1
  try clear c126b2
  try clear hcz101_0
  try clear hcz101_1
  try clear hcz103_0
  try clear hcz103_1
  try clear hcz106_0
  try clear hcz106_1
  try clear hcz108_0
  try clear hcz108_1
  try clear hcz111_0
  try clear hcz111_1
  try clear hcz118_0
  try clear hcz118_1
  try clear hcz123_0
  try clear hcz123_1
  try clear hcz129_0
  try clear hcz129_1
  try clear hcz131_0
  try clear hcz131_1
  try clear hcz136_0
  try clear hcz136_1
  try clear hcz138_0
  try clear hcz138_1
  try clear hcz13_0
  try clear hcz13_1
  try clear hcz144_0
  try clear hcz144_1
  try clear hcz152_0
  try clear hcz152_1
  try clear hcz16_0
  try clear hcz16_1
  try clear hcz20_0
  try clear hcz20_1
  try clear hcz22_0
  try clear hcz22_1
  try clear hcz27_0
  try clear hcz27_1
  try clear hcz40_0
  try clear hcz40_1
  try clear hcz42_0
  try clear hcz42_1
  try clear hcz44_0
  try clear hcz44_1
  try clear hcz46_0
  try clear hcz46_1
  try clear hcz50_0
  try clear hcz50_1
  try clear hcz52_0
  try clear hcz52_1
  try clear hcz54_0
  try clear hcz54_1
  try clear hcz57_0
  try clear hcz57_1
  try clear hcz59_0
  try clear hcz59_1
  try clear hcz63_0
  try clear hcz63_1
  try clear hcz72_0
  try clear hcz72_1
  try clear hcz82_0
  try clear hcz82_1
  try clear hcz92_0
  try clear hcz92_1
  try clear hcz95_0
  try clear hcz95_1
  try clear hfz101_0
  try clear hfz101_1
  try clear hfz103_0
  try clear hfz103_1
  try clear hfz106_0
  try clear hfz106_1
  try clear hfz108_0
  try clear hfz108_1
  try clear hfz111_0
  try clear hfz111_1
  try clear hfz118_0
  try clear hfz118_1
  try clear hfz123_0
  try clear hfz123_1
  try clear hfz129_0
  try clear hfz129_1
  try clear hfz131_0
  try clear hfz131_1
  try clear hfz136_0
  try clear hfz136_1
  try clear hfz138_0
  try clear hfz138_1
  try clear hfz13_0
  try clear hfz13_1
  try clear hfz144_0
  try clear hfz144_1
  try clear hfz152_0
  try clear hfz152_1
  try clear hfz16_0
  try clear hfz16_1
  try clear hfz20_0
  try clear hfz20_1
  try clear hfz22_0
  try clear hfz22_1
  try clear hfz27_0
  try clear hfz27_1
  try clear hfz40_0
  try clear hfz40_1
  try clear hfz42_0
  try clear hfz42_1
  try clear hfz44_0
  try clear hfz44_1
  try clear hfz46_0
  try clear hfz46_1
  try clear hfz50_0
  try clear hfz50_1
  try clear hfz52_0
  try clear hfz52_1
  try clear hfz54_0
  try clear hfz54_1
  try clear hfz57_0
  try clear hfz57_1
  try clear hfz59_0
  try clear hfz59_1
  try clear hfz63_0
  try clear hfz63_1
  try clear hfz72_0
  try clear hfz72_1
  try clear hfz82_0
  try clear hfz82_1
  try clear hfz92_0
  try clear hfz92_1
  try clear hfz95_0
  try clear hfz95_1
  try clear hx361_0
  try clear hx364_0
  try clear hx365_0
  try clear hx366_0
  try clear p361
  try clear p364
  try clear p365
  try clear p366
  try clear q361
  try clear q364
  try clear q365
  try clear q366
  obtain ⟨x26_4, x378001_4, u378001, rfl, HA, HK4, HO_344001, HO_352001, HO_358001, HO_375001, HO_378001, BK343, BK351, BK357, BK374, BK377, HB⟩ := hrel
  cases gk with
  | zero => exact absurd HA.out (by simp [laws_FnRanks.l3])
  | succ k4 =>
   have H := HA.out
   clear HA
   simp only [laws_FnRanks.l3] at H
   by_cases c153 : x26_4 < (wrap64 (1 + t338))
   ·rw [if_pos c153] at H
    have c153b0 := decide_eq_true c153
    clear c153
    obtain ⟨ji154, hji154⟩ : ∃ j_ : Int, (IntKind.u64.wrap ((wrap64 (1 + t338)))) = j_ := ⟨_, rfl⟩
    first | rw [hji154] at H | simp only [hji154] at H | skip
    by_cases c155 : 0 ≤ (ji154)
    rotate_left
    ·rw [if_neg c155] at H
     exact absurd H (by simp)
    rw [if_pos c155] at H
    have c155b0 := eq_true c155
    have c155b1 := decide_eq_true c155
    clear c155
    obtain ⟨ji156, hji156⟩ : ∃ j_ : Int, (shl .i64 1 (ji154)) = j_ := ⟨_, rfl⟩
    first | rw [hji156] at H | simp only [hji156] at H | skip
    have hji156_ : (IntKind.i64.wrap (1 * 2 ^ min (ji154).toNat 64)) = ji156 := hji156
    have hji156z : (ji154) ≤ 64 → (IntKind.i64.wrap (1 * 2 ^ (ji154).toNat)) = ji156 := shl_small hji156
    have hji156u : (IntKind.i64.wrap (2 ^ min (ji154).toNat 64)) = ji156 := by have h_ := hji156_; rw [Int.one_mul] at h_; exact h_
    have hji156v : (ji154) ≤ 64 → (IntKind.i64.wrap (2 ^ (ji154).toNat)) = ji156 := fun hle_ => by have h_ := hji156z hle_; rw [Int.one_mul] at h_; exact h_
    have hji156y : (wrap64 (1 * 2 ^ min (ji154).toNat 64)) = ji156 := (i64_w _).symm.trans hji156_
    have hji156x : (ji154) ≤ 64 → (wrap64 (1 * 2 ^ (ji154).toNat)) = ji156 := fun h_ => (i64_w _).symm.trans (hji156z h_)
    obtain ⟨t378, A157, H⟩ := qBd H
    by_cases c158 : x378001_4.length < 17592186044416
    rotate_left
    ·rw [if_neg c158] at H
     exact absurd H (by simp)
    rw [if_pos c158] at H
    have LMc158 := Aq.mk c158
    clear c158
    obtain ⟨y379, hy379⟩ : ∃ y_ : List Int, y_ = (x378001_4 ++ [t378]) := ⟨_, rfl⟩
    replace H : (laws_FnRanks.l3 k4 l1 (wrap64 (1 + t338)) t344 t373 t375 t376 (wrap64 (x26_4 + 1)) t339 t340 (wrap64 (1 + t338)) y379) = some r := by first | (rw [hy379]; with_reducible exact H) | (have H2_ := (Option.bind_some _ _).symm.trans H; rw [hy379]; with_reducible exact H2_) | (have H2_ := (Option.bind_some _ _).symm.trans H; with_reducible exact H2_) | with_reducible exact H | (rw [hy379]; exact H) | exact H
    have Ny379 := Aq.mk hy379
    clear hy379
    replace H' := Aq.mk H
    clear H
    try go_wp2
    have n0_ := Aq.mk (Kd.RqD HO_344001.out)
    have n1_ := Aq.mk (Kd.RqD HO_352001.out)
    have n2_ := Aq.mk (Kd.RqD HO_358001.out)
    have n3_ := Aq.mk (Kd.RqD HO_375001.out)
    have n4_ := Aq.mk (Kd.RqD HO_378001.out)
    have n5_ := Aq.mk (kQD BK343.out)
    have n6_ := Aq.mk (kQD BK351.out)
    have n7_ := Aq.mk (kQD BK357.out)
    have n8_ := Aq.mk (kQD BK374.out)
    have n9_ := Aq.mk (kQD BK377.out)
    have n10_ := Aq.mk (bQ1 HB.out)
    clear HO_344001
    clear HO_352001
    clear HO_358001
    clear HO_375001
    clear HO_378001
    clear BK343
    clear BK351
    clear BK357
    clear BK374
    clear BK377
    clear HB
    have HO_344001 := n0_
    have HO_352001 := n1_
    have HO_358001 := n2_
    have HO_375001 := n3_
    have HO_378001 := n4_
    have BK343 := n5_
    have BK351 := n6_
    have BK357 := n7_
    have BK374 := n8_
    have BK377 := n9_
    have HB := n10_
    clear n0_ n1_ n2_ n3_ n4_ n5_ n6_ n7_ n8_ n9_ n10_
    refine start_ (n := 13) (S := fun w' => w'.cell? ⟨gb377, 0, none⟩ = some (.int .i64 (wrap64 (1 + t338))) ∧ w'.cell? ⟨gb377, 1, none⟩ = some (u378001)) (ds := [12]) #[false, false, false, false, false, false, false, false, false, false, false, false, false] (by kernel_rfl) rfl rfl ⟨(kQC BK377.out 0).trans rfl, (kQC BK377.out 1).trans rfl⟩ (fun hHeld => ?_); refine with_tabW laws_FnRanks.tab38 laws_FnRanks.bits38 (fun HT_ HW_ => ?_)
    generalize wr.drew = w159 at HO_344001 HO_352001 HO_358001 HO_375001 HO_378001 BK343 BK351 BK357 BK374 BK377 HB hHeld ⊢
    refine tP0 0 199 (bm 13 1) ?_
    refine tP0 2 201 (bm 13 5) ?_
    refine tP0 3 202 (bm 13 13) ?_
    refine tP0 4 203 (bm 13 29) ?_
    refine tP0 5 204 (bm 13 61) ?_
    refine tP0 6 205 (bm 13 125) ?_
    refine tP0 7 206 (bm 13 253) ?_
    refine tT2 1 200 (bm 13 255) ?_
    refine one_ (i := 8) (N := some 207) (bm 13 511) rfl rfl (one_of HT_.out (by kernel_rfl)) (by decide) (fun K hK => ?_)
    refine goes_ Try.func8 (by kernel_rfl) rfl #[.slice A1 l1.length c1, .int .i64 (wrap64 (1 + x26_4)), .int .i64 ji156] (by rfl) rfl rfl (by (try simp only [List.map_toArray, List.map_cons, List.map_nil]); first | done | (simp only [hji156]; rfl) | rfl | (simp only [List.length_drop, List.length_take]; rfl)) ?_
    with_reducible refine (laws_a2At.calls _ _ l1 (wrap64 (1 + x26_4)) ji156 t378 _ ?s1 ?s2 A157.out).mono ?_
    (case s1 => exact tC ((Kd.C_below HR1.out HB.out)))
    (case s2 => exact HC1.out)
    rintro e w' ⟨rfl, ⟨nd, rfl⟩⟩
    refine ⟨_, rfl, ?_⟩
    refine hK.out _ _ ⟨(kQC BK377.out 0).trans rfl, (kQC BK377.out 1).trans rfl⟩ (fun hHeld => ?_)
    clear hK K
    refine tN 207 ?_
    refine one_ (i := 9) (N := some 208) (bm 13 1023) rfl rfl (one_of HT_.out (by kernel_rfl)) (by decide) (fun K hK => ?_)
    refine value_ (w1 := ?_) (v := ?_) (by rfl) rfl ?_ ?_
    rotate_left 2
    ·go_simp
     constructor
     ·rfl
     rfl
    refine hK.out _ _ ⟨(kQC (kQA BK377.out _) 0).trans rfl, (kQC (kQA BK377.out _) 1).trans rfl⟩ (fun hHeld => ?_)
    clear hK K
    refine tN 208 ?_
    refine one_ (i := 10) (N := some 209) (bm 13 2047) rfl rfl (one_of HT_.out (by kernel_rfl)) (by decide) (fun K hK => ?_)
    refine Kd.R_append_step (Kd.int .i64) (w0 := w) w.heap.size (by rfl) (.tmp 200) (.tmp 208) 25 2 (.int .i64 0) 8 rfl Try.underlying25 info2 rfl (by decide) (by omega) u378001 x378001_4 t378 [.int .i64 t378] (fun k_ => some k_ ≠ (.slice Ao14 t340.length co14 : Value).ownBlock ∧ some k_ ≠ (.slice Ao21 t347.length co21 : Value).ownBlock ∧ some k_ ≠ (.slice Ao28 t353.length co28 : Value).ownBlock ∧ some k_ ≠ (.slice Ao145 t370.length co145 : Value).ownBlock) (fun _ => False) rfl rfl ?aP (fun _ hk => hk.elim) ?aF ?aO ?aB ?aS ?aL ?_
    (case aP => exact rfl)
    (case aB => exact tB)
    (case aF => exact (fun k_ hk => ⟨Kd.fresh' (Kd.R_lt (tR HO_344001.out)) k_ hk, Kd.fresh' (Kd.R_lt (tR HO_352001.out)) k_ hk, Kd.fresh' (Kd.R_lt (tR HO_358001.out)) k_ hk, Kd.fresh' (Kd.R_lt (tR HO_375001.out)) k_ hk⟩))
    (case aO => exact (tR HO_378001.out))
    (case aS => exact (bQZ tB))
    (case aL => have := LMc158.out; omega)
    intro v380 w160 ho hb hg hat
    rw [← Ny379.out] at ho
    have n0_ := Aq.mk (Kd.R_after (ok := (fun k_ => some k_ ≠ (.slice Ao21 t347.length co21 : Value).ownBlock ∧ some k_ ≠ (.slice Ao28 t353.length co28 : Value).ownBlock ∧ some k_ ≠ (.slice Ao145 t370.length co145 : Value).ownBlock)) (by (with_reducible repeat (first | apply Kd.RqA | apply Kd.RqN | apply Kd.RqD)); exact Kd.R_mono HO_344001.out (fun _ hk => ⟨⟨hk.1, ⟨hk.2.1, hk.2.2.1⟩⟩, hk.2.2.2⟩)) hg hat)
    have n1_ := Aq.mk (Kd.R_after (ok := (fun k_ => some k_ ≠ (.slice Ao14 t340.length co14 : Value).ownBlock ∧ some k_ ≠ (.slice Ao28 t353.length co28 : Value).ownBlock ∧ some k_ ≠ (.slice Ao145 t370.length co145 : Value).ownBlock)) (by (with_reducible repeat (first | apply Kd.RqA | apply Kd.RqN | apply Kd.RqD)); exact Kd.R_mono HO_352001.out (fun _ hk => ⟨⟨hk.1, ⟨hk.2.1, hk.2.2.1⟩⟩, hk.2.2.2⟩)) hg hat)
    have n2_ := Aq.mk (Kd.R_after (ok := (fun k_ => some k_ ≠ (.slice Ao14 t340.length co14 : Value).ownBlock ∧ some k_ ≠ (.slice Ao21 t347.length co21 : Value).ownBlock ∧ some k_ ≠ (.slice Ao145 t370.length co145 : Value).ownBlock)) (by (with_reducible repeat (first | apply Kd.RqA | apply Kd.RqN | apply Kd.RqD)); exact Kd.R_mono HO_358001.out (fun _ hk => ⟨⟨hk.1, ⟨hk.2.1, hk.2.2.1⟩⟩, hk.2.2.2⟩)) hg hat)
    have n3_ := Aq.mk (Kd.R_after (ok := (fun k_ => some k_ ≠ (.slice Ao14 t340.length co14 : Value).ownBlock ∧ some k_ ≠ (.slice Ao21 t347.length co21 : Value).ownBlock ∧ some k_ ≠ (.slice Ao28 t353.length co28 : Value).ownBlock)) (by (with_reducible repeat (first | apply Kd.RqA | apply Kd.RqN | apply Kd.RqD)); exact Kd.R_mono HO_375001.out (fun _ hk => ⟨⟨hk.1, ⟨hk.2.1, hk.2.2.1⟩⟩, hk.2.2.2⟩)) hg hat)
    have n4_ := Aq.mk (blk_grown (g := gb343) (o := .cells #[.int .i64 t339, .slice Ao14 t340.length co14] 27 (0, 0)) (tG BK343.out) hg (Kd.R_ne HO_378001.out BK343.out (by decide)))
    have n5_ := Aq.mk (blk_grown (g := gb351) (o := .cells #[.int .i64 t346, .slice Ao21 t347.length co21] 27 (0, 0)) (tG BK351.out) hg (Kd.R_ne HO_378001.out BK351.out (by decide)))
    have n6_ := Aq.mk (blk_grown (g := gb357) (o := .cells #[.int .i64 t352, .slice Ao28 t353.length co28] 27 (0, 0)) (tG BK357.out) hg (Kd.R_ne HO_378001.out BK357.out (by decide)))
    have n7_ := Aq.mk (blk_grown (g := gb374) (o := .cells #[.int .i64 t369, .slice Ao145 t370.length co145] 27 (0, 0)) (tG BK374.out) hg (Kd.R_ne HO_378001.out BK374.out (by decide)))
    have n8_ := Aq.mk (blk_grown (g := gb377) (o := .cells #[.int .i64 (wrap64 (1 + t338)), u378001] 27 (0, 0)) (tG BK377.out) hg (Kd.R_ne HO_378001.out BK377.out (by decide)))
    have n9_ := Aq.mk (hb)
    have n10_ := Aq.mk (ho)
    clear HO_344001
    clear HO_352001
    clear HO_358001
    clear HO_375001
    clear BK343
    clear BK351
    clear BK357
    clear BK374
    clear BK377
    clear HB
    clear HO_378001
    have HO_344001 := n0_
    have HO_352001 := n1_
    have HO_358001 := n2_
    have HO_375001 := n3_
    have BK343 := n4_
    have BK351 := n5_
    have BK357 := n6_
    have BK374 := n7_
    have BK377 := n8_
    have HB := n9_
    have HO381 := n10_
    clear n0_ n1_ n2_ n3_ n4_ n5_ n6_ n7_ n8_ n9_ n10_
    clear ho hb hg hat
    obtain ⟨Ao161, co161, eo161⟩ := Kd.R_slice HO381.out
    (first | subst eo161 | (injection eo161 with f1_ f2_ f3_; have f4_ := f1_.symm; have f5_ := f3_.symm; clear f1_ f2_ f3_; subst f4_; subst f5_))
    refine hK.out _ _ ⟨(kQC BK377.out 0).trans rfl, (kQC BK377.out 1).trans rfl⟩ (fun hHeld => ?_)
    clear hK K
    refine tN 209 ?_
    refine tP0 11 210 (bm 13 4095) ?_
    refine last_ (i := 12) (N := none) #[true, true, true, true, true, true, true, true, true, true, true, true, true] rfl rfl (one_of HT_.out (by kernel_rfl)) (by decide) (fun K hK => ?_)
    have hs162 : w160.cell? ⟨gb377, 1, none⟩ = some (u378001) := (kQC BK377.out 1).trans rfl
    have hfs162 := kQF BK377.out 1
    have hns162_0 := NB343_377.out
    have hns162_1 := NB351_377.out
    have hns162_2 := NB357_377.out
    have hns162_3 := NB374_377.out
    have hms162_0 := NB377_343.out
    have hms162_1 := NB377_351.out
    have hms162_2 := NB377_357.out
    have hms162_3 := NB377_374.out
    refine skip_ (w1 := ?_) (by rfl) rfl ?_ ?_
    rotate_left
    ·go_simp
     rfl
    refine hK.out _ _ ?_
    clear hK K
    refine done_ (done_of HT_.out (by kernel_rfl)) ?_
    try go_wp2
    go_roundg k4
    case measure => have := HJ9.out; have := HK2.out; have := HK3.out; have := HK4.out; omega
    case rel => exact ⟨(wrap64 (x26_4 + 1)), (y379), (.slice Ao161 y379.length co161), tS, H', ⟨by have := HJ9.out; have := HK2.out; have := HK3.out; have := HK4.out; omega⟩, ⟨by (with_reducible repeat (first | apply Kd.RqA | apply Kd.RqN | apply Kd.RqD)); exact Kd.R_mono (Kd.R_far (p := ⟨gb377, 1, none⟩) (Kd.R_types HO_344001.out BK377.out (by decide)) (fun _ hk => hk.2) (.slice Ao161 y379.length co161)) (fun _ hk => ⟨hk.1.1.1, ⟨hk.1.1.2.1, ⟨hk.1.1.2.2, hk.1.2⟩⟩⟩)⟩, ⟨by (with_reducible repeat (first | apply Kd.RqA | apply Kd.RqN | apply Kd.RqD)); exact Kd.R_mono (Kd.R_far (p := ⟨gb377, 1, none⟩) (Kd.R_types HO_352001.out BK377.out (by decide)) (fun _ hk => hk.2) (.slice Ao161 y379.length co161)) (fun _ hk => ⟨hk.1.1.1, ⟨hk.1.1.2.1, ⟨hk.1.1.2.2, hk.1.2⟩⟩⟩)⟩, ⟨by (with_reducible repeat (first | apply Kd.RqA | apply Kd.RqN | apply Kd.RqD)); exact Kd.R_mono (Kd.R_far (p := ⟨gb377, 1, none⟩) (Kd.R_types HO_358001.out BK377.out (by decide)) (fun _ hk => hk.2) (.slice Ao161 y379.length co161)) (fun _ hk => ⟨hk.1.1.1, ⟨hk.1.1.2.1, ⟨hk.1.1.2.2, hk.1.2⟩⟩⟩)⟩, ⟨by (with_reducible repeat (first | apply Kd.RqA | apply Kd.RqN | apply Kd.RqD)); exact Kd.R_mono (Kd.R_far (p := ⟨gb377, 1, none⟩) (Kd.R_types HO_375001.out BK377.out (by decide)) (fun _ hk => hk.2) (.slice Ao161 y379.length co161)) (fun _ hk => ⟨hk.1.1.1, ⟨hk.1.1.2.1, ⟨hk.1.1.2.2, hk.1.2⟩⟩⟩)⟩, ⟨by (with_reducible repeat (first | apply Kd.RqA | apply Kd.RqN | apply Kd.RqD)); exact Kd.R_mono (Kd.R_far (p := ⟨gb377, 1, none⟩) (Kd.R_types HO381.out BK377.out (by decide)) (fun _ hk => hk.2) (.slice Ao161 y379.length co161)) (fun _ hk => ⟨hk.1.1, ⟨hk.1.2.1, ⟨hk.1.2.2.1, hk.1.2.2.2⟩⟩⟩)⟩, ⟨by (with_reducible repeat (first | refine kQN ?_ _ | refine kQD ?_ | refine kQA ?_ _)); refine kQR ?_ NB343_377.out _; (with_reducible repeat (first | refine kQN ?_ _ | refine kQD ?_ | refine kQA ?_ _)); exact BK343.out⟩, ⟨by (with_reducible repeat (first | refine kQN ?_ _ | refine kQD ?_ | refine kQA ?_ _)); refine kQR ?_ NB351_377.out _; (with_reducible repeat (first | refine kQN ?_ _ | refine kQD ?_ | refine kQA ?_ _)); exact BK351.out⟩, ⟨by (with_reducible repeat (first | refine kQN ?_ _ | refine kQD ?_ | refine kQA ?_ _)); refine kQR ?_ NB357_377.out _; (with_reducible repeat (first | refine kQN ?_ _ | refine kQD ?_ | refine kQA ?_ _)); exact BK357.out⟩, ⟨by (with_reducible repeat (first | refine kQN ?_ _ | refine kQD ?_ | refine kQA ?_ _)); refine kQR ?_ NB374_377.out _; (with_reducible repeat (first | refine kQN ?_ _ | refine kQD ?_ | refine kQA ?_ _)); exact BK374.out⟩, ⟨by (with_reducible repeat (first | refine kQN ?_ _ | refine kQD ?_ | refine kQA ?_ _)); refine kQP (cs := #[.int .i64 (wrap64 (1 + t338)), u378001]) ?_ 1 _ rfl; (with_reducible repeat (first | refine kQN ?_ _ | refine kQD ?_ | refine kQA ?_ _)); exact BK377.out⟩, ⟨tB⟩⟩
   rw [if_neg c153] at H
   have c153b0 := decide_eq_false c153
   clear c153
   obtain ⟨⟨t382, t383, t386⟩, A163, H⟩ := qBd H
   (try dsimp only at H)
   obtain ⟨⟨t388, t389⟩, A164, H⟩ := qBd H
   (try dsimp only at H)
   obtain ⟨⟨t390, t391⟩, A165, H⟩ := qBd H
   (try dsimp only at H)
   replace H' := Aq.mk H
   clear H
   have hnb166 := NB343_351.out
   have hnc166 := NB351_343.out
   have hnb167 := NB343_357.out
   have hnc167 := NB357_343.out
   have hnb168 := NB343_374.out
   have hnc168 := NB374_343.out
   have hnb169 := NB343_377.out
   have hnc169 := NB377_343.out
   have hcz170_0 : wr.cell? ⟨gb343, 0, none⟩ = some (.int .i64 t339) := (kQC BK343.out 0).trans rfl
   have hcz170_1 : wr.cell? ⟨gb343, 1, none⟩ = some (.slice Ao14 t340.length co14) := (kQC BK343.out 1).trans rfl
   have hfz170_0 := kQF BK343.out 0
   have hfz170_1 := kQF BK343.out 1
   have hnb171 := NB377_351.out
   have hnc171 := NB351_377.out
   have hnb172 := NB377_357.out
   have hnc172 := NB357_377.out
   have hnb173 := NB377_374.out
   have hnc173 := NB374_377.out
   have hcz174_0 : wr.cell? ⟨gb377, 0, none⟩ = some (.int .i64 (wrap64 (1 + t338))) := (kQC BK377.out 0).trans rfl
   have hcz174_1 : wr.cell? ⟨gb377, 1, none⟩ = some (u378001) := (kQC BK377.out 1).trans rfl
   have hfz174_0 := kQF BK377.out 0
   have hfz174_1 := kQF BK377.out 1
   obtain ⟨Ao175, co175, eo175⟩ := Kd.R_slice HO_378001.out
   subst eo175
   go_wp2_with (first | ((with_reducible refine gQc (f := 18) rfl ?_); refine goesL_ (some 214) rfl rfl Try.func18 (by kernel_rfl) rfl #[.agg #[.int .i64 t339, .slice Ao14 t340.length co14], .agg #[.int .i64 (wrap64 (1 + t338)), .slice Ao175 x378001_4.length co175]] rfl tL ?_; (with_reducible refine (impl_MulMatrices.calls k4 t339 (fun k_ => some k_ = (.slice Ao14 t340.length co14 : Value).ownBlock) _ _ t340 (wrap64 (1 + t338)) (fun k_ => some k_ = (.slice Ao175 x378001_4.length co175 : Value).ownBlock) _ _ x378001_4 t382 t383 t386 _ ?s1 ?s2 A163.out).mono ?_); (case s1 => exact Kd.R_V (Kd.R_tight rfl (Kd.R_types (Kd.R_types (Kd.R_types (Kd.R_types (Kd.R_types (HO_344001.out) BK343.out (by decide)) BK351.out (by decide)) BK357.out (by decide)) BK374.out (by decide)) BK377.out (by decide)))); (case s2 => exact Kd.R_V (Kd.R_tight rfl (Kd.R_types (Kd.R_types (Kd.R_types (Kd.R_types (Kd.R_types (HO_378001.out) BK343.out (by decide)) BK351.out (by decide)) BK357.out (by decide)) BK374.out (by decide)) BK377.out (by decide)))); rintro e w176 ⟨v384, rfl, ho0, hb⟩; refine ⟨_, rfl, ?_⟩; refine qM12 (Kd.R_elder' (tR HO_344001.out) (Kd.R_base ho0) hb) (Kd.R_elder' (tR HO_352001.out) (Kd.R_base ho0) hb) (Kd.R_elder' (tR HO_358001.out) (Kd.R_base ho0) hb) (Kd.R_elder' (tR HO_375001.out) (Kd.R_base ho0) hb) (Kd.R_elder' (tR HO_378001.out) (Kd.R_base ho0) hb) (Kd.R_lower (Kd.R_new' (Kd.R_new' (Kd.R_new' (Kd.R_new' (Kd.R_new' (Kd.R_mono (ok' := fun k_ => True) ho0 (fun _ hk_ => trivial)) (Kd.R_lt (tR HO_344001.out))) (Kd.R_lt (tR HO_352001.out))) (Kd.R_lt (tR HO_358001.out))) (Kd.R_lt (tR HO_375001.out))) (Kd.R_lt (tR HO_378001.out))) (bQZ tB)) (tQ BK343.out hb) (tQ BK351.out hb) (tQ BK357.out hb) (tQ BK374.out hb) (tQ BK377.out hb) (bQT tB hb) ?_; clear HO_344001 HO_352001 HO_358001 HO_375001 HO_378001 BK343 BK351 BK357 BK374 BK377 HB; intro HO_344001 HO_352001 HO_358001 HO_375001 HO_378001 HO385 BK343 BK351 BK357 BK374 BK377 HB; (try clear hb); (try clear hb2); (try clear hk); (try clear hi); (try clear ho0)) | ((with_reducible refine gQd (N := 27) rfl ?_); (try (refine gate_guard (by rfl) ?_; dsimp only)); refine xQe ?hg (N := 27) ?hd (cs := #[.int .i64 0, .slice none 0 0]) (t := 27) ?hr ?_; (case hd => rfl); (case hg => rfl); (case hr => exact tH); intro gb387 hg w177 hbox hb; refine qM25 (Kd.R_below (tR HO_344001.out) hb) (Kd.R_below (tR HO_352001.out) hb) (Kd.R_below (tR HO_358001.out) hb) (Kd.R_below (tR HO_375001.out) hb) (Kd.R_below (tR HO_378001.out) hb) (Kd.R_below (tR HO385.out) hb) (tQ BK343.out hb) (tQ BK351.out hb) (tQ BK357.out hb) (tQ BK374.out hb) (tQ BK377.out hb) (bQT tB hb) hbox (tZ w hg) (tZ w hg) ((by rw [hg]; exact Nat.ne_of_lt (blk_lt (g := gb343) (o := .cells #[.int .i64 t339, .slice Ao14 t340.length co14] 27 (0, 0)) (tG BK343.out)) : gb343 ≠ gb387)) ((by rw [hg]; exact Nat.ne_of_gt (blk_lt (g := gb343) (o := .cells #[.int .i64 t339, .slice Ao14 t340.length co14] 27 (0, 0)) (tG BK343.out)) : gb387 ≠ gb343)) ((by rw [hg]; exact Nat.ne_of_lt (blk_lt (g := gb351) (o := .cells #[.int .i64 t346, .slice Ao21 t347.length co21] 27 (0, 0)) (tG BK351.out)) : gb351 ≠ gb387)) ((by rw [hg]; exact Nat.ne_of_gt (blk_lt (g := gb351) (o := .cells #[.int .i64 t346, .slice Ao21 t347.length co21] 27 (0, 0)) (tG BK351.out)) : gb387 ≠ gb351)) ((by rw [hg]; exact Nat.ne_of_lt (blk_lt (g := gb357) (o := .cells #[.int .i64 t352, .slice Ao28 t353.length co28] 27 (0, 0)) (tG BK357.out)) : gb357 ≠ gb387)) ((by rw [hg]; exact Nat.ne_of_gt (blk_lt (g := gb357) (o := .cells #[.int .i64 t352, .slice Ao28 t353.length co28] 27 (0, 0)) (tG BK357.out)) : gb387 ≠ gb357)) ((by rw [hg]; exact Nat.ne_of_lt (blk_lt (g := gb374) (o := .cells #[.int .i64 t369, .slice Ao145 t370.length co145] 27 (0, 0)) (tG BK374.out)) : gb374 ≠ gb387)) ((by rw [hg]; exact Nat.ne_of_gt (blk_lt (g := gb374) (o := .cells #[.int .i64 t369, .slice Ao145 t370.length co145] 27 (0, 0)) (tG BK374.out)) : gb387 ≠ gb374)) ((by rw [hg]; exact Nat.ne_of_lt (blk_lt (g := gb377) (o := .cells #[.int .i64 (wrap64 (1 + t338)), .slice Ao175 x378001_4.length co175] 27 (0, 0)) (tG BK377.out)) : gb377 ≠ gb387)) ((by rw [hg]; exact Nat.ne_of_gt (blk_lt (g := gb377) (o := .cells #[.int .i64 (wrap64 (1 + t338)), .slice Ao175 x378001_4.length co175] 27 (0, 0)) (tG BK377.out)) : gb387 ≠ gb377)) ?_; clear HO_344001 HO_352001 HO_358001 HO_375001 HO_378001 HO385 BK343 BK351 BK357 BK374 BK377 HB; intro HO_344001 HO_352001 HO_358001 HO_375001 HO_378001 HO385 BK343 BK351 BK357 BK374 BK377 HB BK387 GW387 GE387 NB343_387 NB387_343 NB351_387 NB387_351 NB357_387 NB387_357 NB374_387 NB387_374 NB377_387 NB387_377; clear hb hbox hg; have hnb178 := NB387_343.out; have hnc178 := NB343_387.out; have hnb179 := NB387_351.out; have hnc179 := NB351_387.out; have hnb180 := NB387_357.out; have hnc180 := NB357_387.out; have hnb181 := NB387_374.out; have hnc181 := NB374_387.out; have hnb182 := NB387_377.out; have hnc182 := NB377_387.out; have hcz183_0 : w177.cell? ⟨gb387, 0, none⟩ = some (.int .i64 0) := (kQC BK387.out 0).trans rfl; have hcz183_1 : w177.cell? ⟨gb387, 1, none⟩ = some (.slice none 0 0) := (kQC BK387.out 1).trans rfl; have hfz183_0 := kQF BK387.out 0; have hfz183_1 := kQF BK387.out 1; obtain ⟨Ao184, co184, eo184⟩ := Kd.R_slice HO385.out; subst eo184) | ((with_reducible refine gQc (f := 10) rfl ?_); refine goesL_ (some 219) rfl rfl Try.func10 (by kernel_rfl) rfl #[.agg #[.int .i64 t382, .slice Ao184 t383.length co184]] rfl tL ?_; (with_reducible refine (impl_RankOf.calls k4 t382 _ _ t383 t388 t389 _ ?s1 ?s2 A164.out).mono ?_); (case s1 => refine (Kd.R_reads' (e := 2) (base := w.heap.size) (ok := fun k_ => (((((True ∧ some k_ ≠ (.slice Ao14 t340.length co14 : Value).ownBlock) ∧ some k_ ≠ (.slice Ao21 t347.length co21 : Value).ownBlock) ∧ some k_ ≠ (.slice Ao28 t353.length co28 : Value).ownBlock) ∧ some k_ ≠ (.slice Ao145 t370.length co145 : Value).ownBlock) ∧ some k_ ≠ (.slice Ao175 x378001_4.length co175 : Value).ownBlock)) (n := t383.length) (c := co184) ?_).2.2; exact (by (with_reducible repeat (first | apply Kd.RqA | apply Kd.RqN | apply Kd.RqD)); exact (Kd.R_mono (Kd.R_far (p := ⟨gb387, 1, none⟩) (Kd.R_far (p := ⟨gb387, 0, none⟩) (Kd.R_types HO385.out BK387.out (by decide)) (fun _ hk => hk.2) (.int .i64 t382)) (fun _ hk => hk.2) (.slice Ao184 t383.length co184)) (fun _ h_ => h_.1)))); (case s2 => exact (Kd.R_reads' HO385.out).2.1); rintro e w185 ⟨rfl, hb⟩; refine ⟨_, rfl, ?_⟩; refine qM13 (Kd.R_below (by (with_reducible repeat (first | apply Kd.RqA | apply Kd.RqN | apply Kd.RqD)); exact (Kd.R_mono (Kd.R_far (p := ⟨gb387, 1, none⟩) (Kd.R_far (p := ⟨gb387, 0, none⟩) (Kd.R_types HO_344001.out BK387.out (by decide)) (fun _ hk => hk.2) (.int .i64 t382)) (fun _ hk => hk.2) (.slice Ao184 t383.length co184)) (fun _ h_ => h_.1))) hb) (Kd.R_below (by (with_reducible repeat (first | apply Kd.RqA | apply Kd.RqN | apply Kd.RqD)); exact (Kd.R_mono (Kd.R_far (p := ⟨gb387, 1, none⟩) (Kd.R_far (p := ⟨gb387, 0, none⟩) (Kd.R_types HO_352001.out BK387.out (by decide)) (fun _ hk => hk.2) (.int .i64 t382)) (fun _ hk => hk.2) (.slice Ao184 t383.length co184)) (fun _ h_ => h_.1))) hb) (Kd.R_below (by (with_reducible repeat (first | apply Kd.RqA | apply Kd.RqN | apply Kd.RqD)); exact (Kd.R_mono (Kd.R_far (p := ⟨gb387, 1, none⟩) (Kd.R_far (p := ⟨gb387, 0, none⟩) (Kd.R_types HO_358001.out BK387.out (by decide)) (fun _ hk => hk.2) (.int .i64 t382)) (fun _ hk => hk.2) (.slice Ao184 t383.length co184)) (fun _ h_ => h_.1))) hb) (Kd.R_below (by (with_reducible repeat (first | apply Kd.RqA | apply Kd.RqN | apply Kd.RqD)); exact (Kd.R_mono (Kd.R_far (p := ⟨gb387, 1, none⟩) (Kd.R_far (p := ⟨gb387, 0, none⟩) (Kd.R_types HO_375001.out BK387.out (by decide)) (fun _ hk => hk.2) (.int .i64 t382)) (fun _ hk => hk.2) (.slice Ao184 t383.length co184)) (fun _ h_ => h_.1))) hb) (Kd.R_below (by (with_reducible repeat (first | apply Kd.RqA | apply Kd.RqN | apply Kd.RqD)); exact (Kd.R_mono (Kd.R_far (p := ⟨gb387, 1, none⟩) (Kd.R_far (p := ⟨gb387, 0, none⟩) (Kd.R_types HO_378001.out BK387.out (by decide)) (fun _ hk => hk.2) (.int .i64 t382)) (fun _ hk => hk.2) (.slice Ao184 t383.length co184)) (fun _ h_ => h_.1))) hb) (Kd.R_below (by (with_reducible repeat (first | apply Kd.RqA | apply Kd.RqN | apply Kd.RqD)); exact (Kd.R_mono (Kd.R_far (p := ⟨gb387, 1, none⟩) (Kd.R_far (p := ⟨gb387, 0, none⟩) (Kd.R_types HO385.out BK387.out (by decide)) (fun _ hk => hk.2) (.int .i64 t382)) (fun _ hk => hk.2) (.slice Ao184 t383.length co184)) (fun _ h_ => h_.1))) hb) (kQB (g := gb343) (o := .cells #[.int .i64 t339, .slice Ao14 t340.length co14] 27 (0, 0)) (by (with_reducible repeat (first | refine kQN ?_ _ | refine kQD ?_ | refine kQA ?_ _)); refine kQR ?_ NB343_387.out _; (with_reducible repeat (first | refine kQN ?_ _ | refine kQD ?_ | refine kQA ?_ _)); refine kQR ?_ NB343_387.out _; (with_reducible repeat (first | refine kQN ?_ _ | refine kQD ?_ | refine kQA ?_ _)); exact BK343.out) hb) (kQB (g := gb351) (o := .cells #[.int .i64 t346, .slice Ao21 t347.length co21] 27 (0, 0)) (by (with_reducible repeat (first | refine kQN ?_ _ | refine kQD ?_ | refine kQA ?_ _)); refine kQR ?_ NB351_387.out _; (with_reducible repeat (first | refine kQN ?_ _ | refine kQD ?_ | refine kQA ?_ _)); refine kQR ?_ NB351_387.out _; (with_reducible repeat (first | refine kQN ?_ _ | refine kQD ?_ | refine kQA ?_ _)); exact BK351.out) hb) (kQB (g := gb357) (o := .cells #[.int .i64 t352, .slice Ao28 t353.length co28] 27 (0, 0)) (by (with_reducible repeat (first | refine kQN ?_ _ | refine kQD ?_ | refine kQA ?_ _)); refine kQR ?_ NB357_387.out _; (with_reducible repeat (first | refine kQN ?_ _ | refine kQD ?_ | refine kQA ?_ _)); refine kQR ?_ NB357_387.out _; (with_reducible repeat (first | refine kQN ?_ _ | refine kQD ?_ | refine kQA ?_ _)); exact BK357.out) hb) (kQB (g := gb374) (o := .cells #[.int .i64 t369, .slice Ao145 t370.length co145] 27 (0, 0)) (by (with_reducible repeat (first | refine kQN ?_ _ | refine kQD ?_ | refine kQA ?_ _)); refine kQR ?_ NB374_387.out _; (with_reducible repeat (first | refine kQN ?_ _ | refine kQD ?_ | refine kQA ?_ _)); refine kQR ?_ NB374_387.out _; (with_reducible repeat (first | refine kQN ?_ _ | refine kQD ?_ | refine kQA ?_ _)); exact BK374.out) hb) (kQB (g := gb377) (o := .cells #[.int .i64 (wrap64 (1 + t338)), .slice Ao175 x378001_4.length co175] 27 (0, 0)) (by (with_reducible repeat (first | refine kQN ?_ _ | refine kQD ?_ | refine kQA ?_ _)); refine kQR ?_ NB377_387.out _; (with_reducible repeat (first | refine kQN ?_ _ | refine kQD ?_ | refine kQA ?_ _)); refine kQR ?_ NB377_387.out _; (with_reducible repeat (first | refine kQN ?_ _ | refine kQD ?_ | refine kQA ?_ _)); exact BK377.out) hb) (kQB (g := gb387) (o := .cells #[.int .i64 t382, .slice Ao184 t383.length co184] 27 (0, 0)) (by (with_reducible repeat (first | refine kQN ?_ _ | refine kQD ?_ | refine kQA ?_ _)); refine kQP (cs := #[.int .i64 t382, .slice none 0 0]) ?_ 1 _ rfl; (with_reducible repeat (first | refine kQN ?_ _ | refine kQD ?_ | refine kQA ?_ _)); refine kQP (cs := #[.int .i64 0, .slice none 0 0]) ?_ 0 _ rfl; (with_reducible repeat (first | refine kQN ?_ _ | refine kQD ?_ | refine kQA ?_ _)); exact BK387.out) hb) (bQT tB hb) ?_; clear HO_344001 HO_352001 HO_358001 HO_375001 HO_378001 HO385 BK343 BK351 BK357 BK374 BK377 BK387 HB; intro HO_344001 HO_352001 HO_358001 HO_375001 HO_378001 HO385 BK343 BK351 BK357 BK374 BK377 BK387 HB; (try clear hb); (try clear hb2); (try clear hk); (try clear hi); have hcz186_0 : w185.cell? ⟨gb377, 0, none⟩ = some (.int .i64 (wrap64 (1 + t338))) := (kQC BK377.out 0).trans rfl; have hcz186_1 : w185.cell? ⟨gb377, 1, none⟩ = some (.slice Ao175 x378001_4.length co175) := (kQC BK377.out 1).trans rfl; have hfz186_0 := kQF BK377.out 0; have hfz186_1 := kQF BK377.out 1) | ((with_reducible refine gQc (f := 10) rfl ?_); refine goesL_ (some 224) rfl rfl Try.func10 (by kernel_rfl) rfl #[.agg #[.int .i64 (wrap64 (1 + t338)), .slice Ao175 x378001_4.length co175]] rfl tL ?_; (with_reducible refine (impl_RankOf.calls k4 (wrap64 (1 + t338)) _ _ x378001_4 t390 t391 _ ?s1 ?s2 A165.out).mono ?_); (case s1 => exact tC ((Kd.R_reads' HO_378001.out).2.2)); (case s2 => exact (Kd.R_reads' HO_378001.out).2.1); rintro e w187 ⟨rfl, hb⟩; refine ⟨_, rfl, ?_⟩; refine qM13 (Kd.R_below (tR HO_344001.out) hb) (Kd.R_below (tR HO_352001.out) hb) (Kd.R_below (tR HO_358001.out) hb) (Kd.R_below (tR HO_375001.out) hb) (Kd.R_below (tR HO_378001.out) hb) (Kd.R_below (tR HO385.out) hb) (tQ BK343.out hb) (tQ BK351.out hb) (tQ BK357.out hb) (tQ BK374.out hb) (tQ BK377.out hb) (tQ BK387.out hb) (bQT tB hb) ?_; clear HO_344001 HO_352001 HO_358001 HO_375001 HO_378001 HO385 BK343 BK351 BK357 BK374 BK377 BK387 HB; intro HO_344001 HO_352001 HO_358001 HO_375001 HO_378001 HO385 BK343 BK351 BK357 BK374 BK377 BK387 HB; (try clear hb); (try clear hb2); (try clear hk); (try clear hi)) | ((with_reducible refine gQd (N := 33) rfl ?_); (try (refine gate_guard (by rfl) ?_; dsimp only)); refine xQe ?hg (N := 33) ?hd (cs := #[.int .i64 0, .slice none 0 0]) (t := 27) ?hr ?_; (case hd => rfl); (case hg => rfl); (case hr => exact tH); intro gb392 hg w188 hbox hb; refine qM28 (Kd.R_below (tR HO_344001.out) hb) (Kd.R_below (tR HO_352001.out) hb) (Kd.R_below (tR HO_358001.out) hb) (Kd.R_below (tR HO_375001.out) hb) (Kd.R_below (tR HO_378001.out) hb) (Kd.R_below (tR HO385.out) hb) (tQ BK343.out hb) (tQ BK351.out hb) (tQ BK357.out hb) (tQ BK374.out hb) (tQ BK377.out hb) (tQ BK387.out hb) (bQT tB hb) hbox (tZ w hg) (tZ w hg) ((by rw [hg]; exact Nat.ne_of_lt (blk_lt (g := gb343) (o := .cells #[.int .i64 t339, .slice Ao14 t340.length co14] 27 (0, 0)) (tG BK343.out)) : gb343 ≠ gb392)) ((by rw [hg]; exact Nat.ne_of_gt (blk_lt (g := gb343) (o := .cells #[.int .i64 t339, .slice Ao14 t340.length co14] 27 (0, 0)) (tG BK343.out)) : gb392 ≠ gb343)) ((by rw [hg]; exact Nat.ne_of_lt (blk_lt (g := gb351) (o := .cells #[.int .i64 t346, .slice Ao21 t347.length co21] 27 (0, 0)) (tG BK351.out)) : gb351 ≠ gb392)) ((by rw [hg]; exact Nat.ne_of_gt (blk_lt (g := gb351) (o := .cells #[.int .i64 t346, .slice Ao21 t347.length co21] 27 (0, 0)) (tG BK351.out)) : gb392 ≠ gb351)) ((by rw [hg]; exact Nat.ne_of_lt (blk_lt (g := gb357) (o := .cells #[.int .i64 t352, .slice Ao28 t353.length co28] 27 (0, 0)) (tG BK357.out)) : gb357 ≠ gb392)) ((by rw [hg]; exact Nat.ne_of_gt (blk_lt (g := gb357) (o := .cells #[.int .i64 t352, .slice Ao28 t353.length co28] 27 (0, 0)) (tG BK357.out)) : gb392 ≠ gb357)) ((by rw [hg]; exact Nat.ne_of_lt (blk_lt (g := gb374) (o := .cells #[.int .i64 t369, .slice Ao145 t370.length co145] 27 (0, 0)) (tG BK374.out)) : gb374 ≠ gb392)) ((by rw [hg]; exact Nat.ne_of_gt (blk_lt (g := gb374) (o := .cells #[.int .i64 t369, .slice Ao145 t370.length co145] 27 (0, 0)) (tG BK374.out)) : gb392 ≠ gb374)) ((by rw [hg]; exact Nat.ne_of_lt (blk_lt (g := gb377) (o := .cells #[.int .i64 (wrap64 (1 + t338)), .slice Ao175 x378001_4.length co175] 27 (0, 0)) (tG BK377.out)) : gb377 ≠ gb392)) ((by rw [hg]; exact Nat.ne_of_gt (blk_lt (g := gb377) (o := .cells #[.int .i64 (wrap64 (1 + t338)), .slice Ao175 x378001_4.length co175] 27 (0, 0)) (tG BK377.out)) : gb392 ≠ gb377)) ((by rw [hg]; exact Nat.ne_of_lt (blk_lt (g := gb387) (o := .cells #[.int .i64 t382, .slice Ao184 t383.length co184] 27 (0, 0)) (tG BK387.out)) : gb387 ≠ gb392)) ((by rw [hg]; exact Nat.ne_of_gt (blk_lt (g := gb387) (o := .cells #[.int .i64 t382, .slice Ao184 t383.length co184] 27 (0, 0)) (tG BK387.out)) : gb392 ≠ gb387)) ?_; clear HO_344001 HO_352001 HO_358001 HO_375001 HO_378001 HO385 BK343 BK351 BK357 BK374 BK377 BK387 HB; intro HO_344001 HO_352001 HO_358001 HO_375001 HO_378001 HO385 BK343 BK351 BK357 BK374 BK377 BK387 HB BK392 GW392 GE392 NB343_392 NB392_343 NB351_392 NB392_351 NB357_392 NB392_357 NB374_392 NB392_374 NB377_392 NB392_377 NB387_392 NB392_387; clear hb hbox hg; have hnb189 := NB392_343.out; have hnc189 := NB343_392.out; have hnb190 := NB392_351.out; have hnc190 := NB351_392.out; have hnb191 := NB392_357.out; have hnc191 := NB357_392.out; have hnb192 := NB392_374.out; have hnc192 := NB374_392.out; have hnb193 := NB392_377.out; have hnc193 := NB377_392.out; have hnb194 := NB392_387.out; have hnc194 := NB387_392.out; have hcz195_0 : w188.cell? ⟨gb392, 0, none⟩ = some (.int .i64 0) := (kQC BK392.out 0).trans rfl; have hcz195_1 : w188.cell? ⟨gb392, 1, none⟩ = some (.slice none 0 0) := (kQC BK392.out 1).trans rfl; have hfz195_0 := kQF BK392.out 0; have hfz195_1 := kQF BK392.out 1))
   go_loopg [34] k4 (fun kq v34 w' => ∃ (x34_5 : Int) (x393001_5 : List Int) (u393001 : Value), v34 = .int .i64 x34_5 ∧ Aq (laws_FnRanks.l4 kq l1 (wrap64 (1 + t338)) t344 t373 t375 t376 t386 t388 t389 t390 t391 x34_5 t339 t340 (wrap64 (1 + t338)) x393001_5 = some r) ∧ Aq (kq ≤ k4) ∧ Aq (Kd.R (Kd.int .i64) 2 w' w.heap.size (fun k_ => some k_ ≠ ((.slice Ao21 t347.length co21) : Value).ownBlock ∧ some k_ ≠ ((.slice Ao28 t353.length co28) : Value).ownBlock ∧ some k_ ≠ ((.slice Ao145 t370.length co145) : Value).ownBlock ∧ some k_ ≠ ((.slice Ao175 x378001_4.length co175) : Value).ownBlock ∧ some k_ ≠ ((.slice Ao184 t383.length co184) : Value).ownBlock ∧ some k_ ≠ (u393001 : Value).ownBlock) (.slice Ao14 t340.length co14) t340) ∧ Aq (Kd.R (Kd.int .i64) 2 w' w.heap.size (fun k_ => some k_ ≠ ((.slice Ao14 t340.length co14) : Value).ownBlock ∧ some k_ ≠ ((.slice Ao28 t353.length co28) : Value).ownBlock ∧ some k_ ≠ ((.slice Ao145 t370.length co145) : Value).ownBlock ∧ some k_ ≠ ((.slice Ao175 x378001_4.length co175) : Value).ownBlock ∧ some k_ ≠ ((.slice Ao184 t383.length co184) : Value).ownBlock ∧ some k_ ≠ (u393001 : Value).ownBlock) (.slice Ao21 t347.length co21) t347) ∧ Aq (Kd.R (Kd.int .i64) 2 w' w.heap.size (fun k_ => some k_ ≠ ((.slice Ao14 t340.length co14) : Value).ownBlock ∧ some k_ ≠ ((.slice Ao21 t347.length co21) : Value).ownBlock ∧ some k_ ≠ ((.slice Ao145 t370.length co145) : Value).ownBlock ∧ some k_ ≠ ((.slice Ao175 x378001_4.length co175) : Value).ownBlock ∧ some k_ ≠ ((.slice Ao184 t383.length co184) : Value).ownBlock ∧ some k_ ≠ (u393001 : Value).ownBlock) (.slice Ao28 t353.length co28) t353) ∧ Aq (Kd.R (Kd.int .i64) 2 w' w.heap.size (fun k_ => some k_ ≠ ((.slice Ao14 t340.length co14) : Value).ownBlock ∧ some k_ ≠ ((.slice Ao21 t347.length co21) : Value).ownBlock ∧ some k_ ≠ ((.slice Ao28 t353.length co28) : Value).ownBlock ∧ some k_ ≠ ((.slice Ao175 x378001_4.length co175) : Value).ownBlock ∧ some k_ ≠ ((.slice Ao184 t383.length co184) : Value).ownBlock ∧ some k_ ≠ (u393001 : Value).ownBlock) (.slice Ao145 t370.length co145) t370) ∧ Aq (Kd.R (Kd.int .i64) 2 w' w.heap.size (fun k_ => some k_ ≠ ((.slice Ao14 t340.length co14) : Value).ownBlock ∧ some k_ ≠ ((.slice Ao21 t347.length co21) : Value).ownBlock ∧ some k_ ≠ ((.slice Ao28 t353.length co28) : Value).ownBlock ∧ some k_ ≠ ((.slice Ao145 t370.length co145) : Value).ownBlock ∧ some k_ ≠ ((.slice Ao184 t383.length co184) : Value).ownBlock ∧ some k_ ≠ (u393001 : Value).ownBlock) (.slice Ao175 x378001_4.length co175) x378001_4) ∧ Aq (Kd.R (Kd.int .i64) 2 w' w.heap.size (fun k_ => some k_ ≠ ((.slice Ao14 t340.length co14) : Value).ownBlock ∧ some k_ ≠ ((.slice Ao21 t347.length co21) : Value).ownBlock ∧ some k_ ≠ ((.slice Ao28 t353.length co28) : Value).ownBlock ∧ some k_ ≠ ((.slice Ao145 t370.length co145) : Value).ownBlock ∧ some k_ ≠ ((.slice Ao175 x378001_4.length co175) : Value).ownBlock ∧ some k_ ≠ (u393001 : Value).ownBlock) (.slice Ao184 t383.length co184) t383) ∧ Aq (Kd.R (Kd.int .i64) 2 w' w.heap.size (fun k_ => some k_ ≠ ((.slice Ao14 t340.length co14) : Value).ownBlock ∧ some k_ ≠ ((.slice Ao21 t347.length co21) : Value).ownBlock ∧ some k_ ≠ ((.slice Ao28 t353.length co28) : Value).ownBlock ∧ some k_ ≠ ((.slice Ao145 t370.length co145) : Value).ownBlock ∧ some k_ ≠ ((.slice Ao175 x378001_4.length co175) : Value).ownBlock ∧ some k_ ≠ ((.slice Ao184 t383.length co184) : Value).ownBlock) u393001 x393001_5) ∧ Aq (w'.heap[gb343]? = some (.cells #[.int .i64 t339, (.slice Ao14 t340.length co14)] 27 (0, 0))) ∧ Aq (w'.heap[gb351]? = some (.cells #[.int .i64 t346, (.slice Ao21 t347.length co21)] 27 (0, 0))) ∧ Aq (w'.heap[gb357]? = some (.cells #[.int .i64 t352, (.slice Ao28 t353.length co28)] 27 (0, 0))) ∧ Aq (w'.heap[gb374]? = some (.cells #[.int .i64 t369, (.slice Ao145 t370.length co145)] 27 (0, 0))) ∧ Aq (w'.heap[gb377]? = some (.cells #[.int .i64 (wrap64 (1 + t338)), (.slice Ao175 x378001_4.length co175)] 27 (0, 0))) ∧ Aq (w'.heap[gb387]? = some (.cells #[.int .i64 t382, (.slice Ao184 t383.length co184)] 27 (0, 0))) ∧ Aq (w'.heap[gb392]? = some (.cells #[.int .i64 (wrap64 (1 + t338)), u393001] 27 (0, 0))) ∧ Aq (Below w.heap.size w w'))
   case atStart => exact ⟨(0), (([] : List Int)), (.slice none 0 0), tS, H', ⟨Nat.le_refl _⟩, ⟨by (with_reducible repeat (first | apply Kd.RqA | apply Kd.RqN | apply Kd.RqD)); exact Kd.R_mono (Kd.R_far (p := ⟨gb392, 1, none⟩) (Kd.R_far (p := ⟨gb392, 0, none⟩) (Kd.R_types HO_344001.out BK392.out (by decide)) (fun _ hk => hk.2) (.int .i64 (wrap64 (1 + t338)))) (fun _ hk => hk.2) (.slice none 0 0)) (fun _ hk => ⟨hk.1.1.1, ⟨hk.1.1.2.1, ⟨hk.1.1.2.2.1, ⟨hk.1.1.2.2.2, ⟨hk.1.2, (by simp [Value.ownBlock])⟩⟩⟩⟩⟩)⟩, ⟨by (with_reducible repeat (first | apply Kd.RqA | apply Kd.RqN | apply Kd.RqD)); exact Kd.R_mono (Kd.R_far (p := ⟨gb392, 1, none⟩) (Kd.R_far (p := ⟨gb392, 0, none⟩) (Kd.R_types HO_352001.out BK392.out (by decide)) (fun _ hk => hk.2) (.int .i64 (wrap64 (1 + t338)))) (fun _ hk => hk.2) (.slice none 0 0)) (fun _ hk => ⟨hk.1.1.1, ⟨hk.1.1.2.1, ⟨hk.1.1.2.2.1, ⟨hk.1.1.2.2.2, ⟨hk.1.2, (by simp [Value.ownBlock])⟩⟩⟩⟩⟩)⟩, ⟨by (with_reducible repeat (first | apply Kd.RqA | apply Kd.RqN | apply Kd.RqD)); exact Kd.R_mono (Kd.R_far (p := ⟨gb392, 1, none⟩) (Kd.R_far (p := ⟨gb392, 0, none⟩) (Kd.R_types HO_358001.out BK392.out (by decide)) (fun _ hk => hk.2) (.int .i64 (wrap64 (1 + t338)))) (fun _ hk => hk.2) (.slice none 0 0)) (fun _ hk => ⟨hk.1.1.1, ⟨hk.1.1.2.1, ⟨hk.1.1.2.2.1, ⟨hk.1.1.2.2.2, ⟨hk.1.2, (by simp [Value.ownBlock])⟩⟩⟩⟩⟩)⟩, ⟨by (with_reducible repeat (first | apply Kd.RqA | apply Kd.RqN | apply Kd.RqD)); exact Kd.R_mono (Kd.R_far (p := ⟨gb392, 1, none⟩) (Kd.R_far (p := ⟨gb392, 0, none⟩) (Kd.R_types HO_375001.out BK392.out (by decide)) (fun _ hk => hk.2) (.int .i64 (wrap64 (1 + t338)))) (fun _ hk => hk.2) (.slice none 0 0)) (fun _ hk => ⟨hk.1.1.1, ⟨hk.1.1.2.1, ⟨hk.1.1.2.2.1, ⟨hk.1.1.2.2.2, ⟨hk.1.2, (by simp [Value.ownBlock])⟩⟩⟩⟩⟩)⟩, ⟨by (with_reducible repeat (first | apply Kd.RqA | apply Kd.RqN | apply Kd.RqD)); exact Kd.R_mono (Kd.R_far (p := ⟨gb392, 1, none⟩) (Kd.R_far (p := ⟨gb392, 0, none⟩) (Kd.R_types HO_378001.out BK392.out (by decide)) (fun _ hk => hk.2) (.int .i64 (wrap64 (1 + t338)))) (fun _ hk => hk.2) (.slice none 0 0)) (fun _ hk => ⟨hk.1.1.1, ⟨hk.1.1.2.1, ⟨hk.1.1.2.2.1, ⟨hk.1.1.2.2.2, ⟨hk.1.2, (by simp [Value.ownBlock])⟩⟩⟩⟩⟩)⟩, ⟨by (with_reducible repeat (first | apply Kd.RqA | apply Kd.RqN | apply Kd.RqD)); exact Kd.R_mono (Kd.R_far (p := ⟨gb392, 1, none⟩) (Kd.R_far (p := ⟨gb392, 0, none⟩) (Kd.R_types HO385.out BK392.out (by decide)) (fun _ hk => hk.2) (.int .i64 (wrap64 (1 + t338)))) (fun _ hk => hk.2) (.slice none 0 0)) (fun _ hk => ⟨hk.1.1.1.1.1.2, ⟨hk.1.1.1.1.2, ⟨hk.1.1.1.2, ⟨hk.1.1.2, ⟨hk.1.2, (by simp [Value.ownBlock])⟩⟩⟩⟩⟩)⟩, ⟨by first | exact Kd.R_nil _ _ _ _ _ | exact Kd.N_nil _ _ _ _ _ | exact Kd.V_nil _ _ _ _ _ | exact Kd.Q_nil _ _ _ _ _ | exact Kd.S_nil _ _ _ _ _⟩, ⟨by (with_reducible repeat (first | refine kQN ?_ _ | refine kQD ?_ | refine kQA ?_ _)); refine kQR ?_ NB343_392.out _; (with_reducible repeat (first | refine kQN ?_ _ | refine kQD ?_ | refine kQA ?_ _)); refine kQR ?_ NB343_392.out _; (with_reducible repeat (first | refine kQN ?_ _ | refine kQD ?_ | refine kQA ?_ _)); exact BK343.out⟩, ⟨by (with_reducible repeat (first | refine kQN ?_ _ | refine kQD ?_ | refine kQA ?_ _)); refine kQR ?_ NB351_392.out _; (with_reducible repeat (first | refine kQN ?_ _ | refine kQD ?_ | refine kQA ?_ _)); refine kQR ?_ NB351_392.out _; (with_reducible repeat (first | refine kQN ?_ _ | refine kQD ?_ | refine kQA ?_ _)); exact BK351.out⟩, ⟨by (with_reducible repeat (first | refine kQN ?_ _ | refine kQD ?_ | refine kQA ?_ _)); refine kQR ?_ NB357_392.out _; (with_reducible repeat (first | refine kQN ?_ _ | refine kQD ?_ | refine kQA ?_ _)); refine kQR ?_ NB357_392.out _; (with_reducible repeat (first | refine kQN ?_ _ | refine kQD ?_ | refine kQA ?_ _)); exact BK357.out⟩, ⟨by (with_reducible repeat (first | refine kQN ?_ _ | refine kQD ?_ | refine kQA ?_ _)); refine kQR ?_ NB374_392.out _; (with_reducible repeat (first | refine kQN ?_ _ | refine kQD ?_ | refine kQA ?_ _)); refine kQR ?_ NB374_392.out _; (with_reducible repeat (first | refine kQN ?_ _ | refine kQD ?_ | refine kQA ?_ _)); exact BK374.out⟩, ⟨by (with_reducible repeat (first | refine kQN ?_ _ | refine kQD ?_ | refine kQA ?_ _)); refine kQR ?_ NB377_392.out _; (with_reducible repeat (first | refine kQN ?_ _ | refine kQD ?_ | refine kQA ?_ _)); refine kQR ?_ NB377_392.out _; (with_reducible repeat (first | refine kQN ?_ _ | refine kQD ?_ | refine kQA ?_ _)); exact BK377.out⟩, ⟨by (with_reducible repeat (first | refine kQN ?_ _ | refine kQD ?_ | refine kQA ?_ _)); refine kQR ?_ NB387_392.out _; (with_reducible repeat (first | refine kQN ?_ _ | refine kQD ?_ | refine kQA ?_ _)); refine kQR ?_ NB387_392.out _; (with_reducible repeat (first | refine kQN ?_ _ | refine kQD ?_ | refine kQA ?_ _)); exact BK387.out⟩, ⟨by (with_reducible repeat (first | refine kQN ?_ _ | refine kQD ?_ | refine kQA ?_ _)); refine kQP (cs := #[.int .i64 (wrap64 (1 + t338)), .slice none 0 0]) ?_ 1 _ rfl; (with_reducible repeat (first | refine kQN ?_ _ | refine kQD ?_ | refine kQA ?_ _)); refine kQP (cs := #[.int .i64 0, .slice none 0 0]) ?_ 0 _ rfl; (with_reducible repeat (first | refine kQN ?_ _ | refine kQD ?_ | refine kQA ?_ _)); exact BK392.out⟩, ⟨tB⟩⟩
   rename_i ze_0_0 ze_0_1 ze_0_2 ze_0_3 ze_0_4 ze_0_5 ze_0_6 ze_0_7 ze_0_8 ze_0_9 ze_0_10 ze_0_11 ze_0_12 ze_0_13 ze_0_14 ze_0_15 ze_0_16 ze_0_17 ze_0_18 ze_0_19 ze_0_20 ze_0_21 ze_0_22 ze_0_23 ze_0_24 ze_0_25 ze_0_26 ze_0_27 ze_0_28 ze_0_29 ze_0_30 ze_0_31 ze_0_32 ze_0_33 ze_0_34 ze_0_35 ze_0_36 ze_0_37 ze_0_38 ze_0_39
   revert k A0 c0 l0 A1 c1 l1 r w hu27 HR0 HC0 HR1 HC1 za_3_0 A3 za_3_1 t338 A5 za_3_2 t339 t340 A6 za_3_3 t344 t345 A7 za_3_4 t346 t347 t350 A8 za_3_5 t352 t353 t356 A9 za_3_6 za_3_7 za_3_8 nd w11 gb343 w12 GW343 GE343 Ao14 co14 w15 w17 gb351 w18 GW351 GE351 NB343_351 NB351_343 hnb19 hnc19 Ao21 co21 w23 gb357 w24 za_3_9 za_3_10 za_3_11 za_3_12 GW357 GE357 NB343_357 NB357_343 NB351_357 NB357_351 hnb25 hnc25 hnb26 hnc26 Ao28 co28 HO342 HO349 HO355 wc u41 u42 u43 u44 u45 u46 u47 u48 u49 u50 u51 u52 u53 u54 u55 u56 u57 u58 u59 u60 u61 u62 u63 u64 u65 u66 u67 u68 u69 u70 u71 u72 u73 u74 u75 u76 u77 u78 u79 u80 u81 u82 u83 u84 u85 u86 u87 u88 u89 u90 u91 u92 u93 u94 u95 u96 za_3_13 za_3_14 za_3_15 za_3_16 za_3_17 za_3_18 za_3_19 za_3_20 za_3_21 za_3_22 za_3_23 za_3_24 za_3_25 za_3_26 za_3_27 za_3_28 za_3_29 za_3_30 za_3_31 za_3_32 za_3_33 za_3_34 za_3_35 za_3_36 za_3_37 za_3_38 za_3_39 za_3_40 za_3_41 za_3_42 za_3_43 za_3_44 za_3_45 za_3_46 za_3_47 za_3_48 za_3_49 za_3_50 za_3_51 za_3_52 za_3_53 za_3_54 za_3_55 za_3_56 za_3_57 za_3_58 za_3_59 za_3_60 za_3_61 za_3_62 za_3_63 za_3_64 za_3_65 za_3_66 za_3_67 za_3_68 za_3_69 za_3_70 za_3_71 za_3_72 za_3_73 za_3_74 za_3_75 za_3_76 za_3_77 za_3_78 za_3_79 za_3_80 za_3_81 za_3_82 za_3_83 za_3_84 za_3_85 za_3_86 za_3_87 za_3_88 za_3_89 za_3_90 u176 u177 u178 u179 u180 u181 u182 u183 u184 u185 u186 u187 u188 u189 u190 u191 u192 u193 za_3_91 za_3_92 za_3_93 za_3_94 za_3_95 za_3_96 za_3_97 za_3_98 za_3_99 za_3_100 za_3_101 za_3_102 za_3_103 za_3_104 za_3_105 za_3_106 za_3_107 u211 u212 u213 u214 u215 u216 u217 u218 u219 u220 u221 u222 u223 u224 u225 u226 u227 u228 ze_0_0 ze_0_1 ze_0_2 ze_0_3 ze_0_4 ze_0_5 ze_0_6 ze_0_7 ze_0_8 ze_0_9 ze_0_10 ze_0_11 ze_0_12 ze_0_13 ze_0_14 ze_0_15 ze_0_16 ze_0_17 ze_0_18 u248 u249 u250 u251 u252 u253 u254 u255 u256 u257 u258 u259 u260 u261 u262 u263 u264 u265 u266 u267 u268 u269 u270 u271 u272 u273 u274 u275 u276 u277 u278 u279 u280 u281 u282 u283 u284 u285 u286 u287 u288 u289 u290 u291 u292 u293 u294 u295 u296 u297 u298 u299 u300 u301 u302 u303 u304 u305 u306 u307 u308 u309 u310 u311 u312 u313 u314 u315 za_3_108 za_3_109 za_3_110 za_3_111 za_3_112 za_3_113 za_3_114 kj9 HJ9 za_3_115 za_3_116 za_3_117 u14 u15 u16 u17 u98 u99 u100 u101 u102 u103 u104 u105 u106 u107 u108 u109 u110 u111 u112 u113 u114 u115 u116 u117 u118 u119 u120 u121 u122 u123 u124 u125 u126 u127 u128 u129 u130 u131 u132 u133 u134 u135 u136 u137 u138 u139 u140 u141 u142 u143 u144 u145 u146 u147 u148 u149 u150 u151 u152 u153 u154 u155 u156 za_3_118 za_3_119 za_3_120 x13_2 za_3_121 za_3_122 za_3_123 za_3_124 za_3_125 za_3_126 za_3_127 k2 za_3_128 HK2 hnb109 hnc109 hnb110 hnc110 za_3_129 za_3_130 za_3_131 za_3_132 u4 u19 u20 u157 u158 u159 u160 u161 u162 u163 u164 u165 u166 u167 u168 u169 u170 u171 u172 u173 u174 u175 za_3_133 za_3_134 za_3_135 x18_3 k3 za_3_136 HK3 za_3_137 t369 t370 t373 A132 ze_0_19 t375 t376 A133 hnb134 hnc134 hnb135 hnc135 hnb137 hnc137 za_3_138 za_3_139 w139 gb374 w140 GW374 GE374 NB343_374 NB374_343 NB351_374 NB374_351 NB357_374 NB374_357 hnb141 hnc141 hnb142 hnc142 hnb143 hnc143 Ao145 co145 w146 gb377 w147 ze_0_20 ze_0_21 ze_0_22 HO372 ze_0_23 ze_0_24 ze_0_25 ze_0_26 ze_0_27 ze_0_28 GW377 GE377 NB343_377 NB377_343 NB351_377 NB377_351 NB357_377 NB377_357 NB374_377 NB377_374 hnb148 hnc148 hnb149 hnc149 hnb150 hnc150 hnb151 hnc151 za_3_140 ze_0_29 u194 u195 u196 u197 u198 u199 u200 u201 u202 u203 u204 u205 u206 u207 u208 u209 u210 za_3_142 za_3_143 za_3_144 x26_4 x378001_4 k4 za_3_145 HK4 ze_0_30 c153b0 t382 t383 t386 A163 ze_0_31 t388 t389 A164 H t390 t391 A165 H' hnb166 hnc166 hnb167 hnc167 hnb168 hnc168 hnb169 hnc169 hcz170_0 hcz170_1 hfz170_0 hfz170_1 hnb171 hnc171 hnb172 hnc172 hnb173 hnc173 hcz174_0 hfz174_0 hfz174_1 Ao175 co175 hcz174_1 ze_0_32 ze_0_33 w176 gb387 w177 GW387 GE387 NB343_387 NB387_343 NB351_387 NB387_351 NB357_387 NB387_357 NB374_387 NB387_374 NB377_387 NB387_377 hnb178 hnc178 hnb179 hnc179 hnb180 hnc180 hnb181 hnc181 hnb182 hnc182 hcz183_0 hcz183_1 hfz183_0 hfz183_1 Ao184 co184 w185 hcz186_0 hcz186_1 hfz186_0 hfz186_1 w187 gb392 w188 HO_344001 HO_352001 HO_358001 HO_375001 HO_378001 HO385 BK343 BK351 BK357 BK374 BK377 BK387 HB BK392 GW392 GE392 NB343_392 NB392_343 NB351_392 NB392_351 NB357_392 NB392_357 NB374_392 NB392_374 NB377_392 NB392_377 NB387_392 NB392_387 hnb189 hnc189 hnb190 hnc190 hnb191 hnc191 hnb192 hnc192 hnb193 hnc193 hnb194 hnc194 hcz195_0 hcz195_1 hfz195_0 hfz195_1 ze_0_34 ze_0_35 gk wr u34 u229 u230 u231 u232 u233 u234 u235 u236 u237 u238 u239 u240 u241 u242 u243 u244 u245 u246 u247 hrel ze_0_36 ze_0_37 ze_0_38 ze_0_39
   exact hG0_.out
end Go.Proofs.Ythjfilmdobkmlaa.P
