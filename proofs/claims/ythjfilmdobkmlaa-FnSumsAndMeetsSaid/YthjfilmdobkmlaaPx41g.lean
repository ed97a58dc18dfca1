/- Functions of the program and what they tell, as the printing program wrote it. -/
import Derived.Test.YthjfilmdobkmlaaPx0
import Derived.Test.YthjfilmdobkmlaaPx7
import Derived.Test.YthjfilmdobkmlaaPx9
import Derived.Test.YthjfilmdobkmlaaPx20
import Derived.Test.YthjfilmdobkmlaaPx22
import Derived.Test.YthjfilmdobkmlaaPx23
import Derived.Test.YthjfilmdobkmlaaPx24
import Derived.Test.YthjfilmdobkmlaaPx41c
namespace Go.Proofs.Ythjfilmdobkmlaa.P
open Go.Shelf Go.RowKit Go.Proofs.YthjfilmdobkmlaaW.PrintWords Go.Proofs.YthjfilmdobkmlaaW.PrintLast Go.Proofs.YthjfilmdobkmlaaW.PrintMore
attribute [local go_sem] max2_int min2_int max_two min_two max_three min_three max_four min_four
set_option linter.unusedVariables false
set_option linter.unusedSimpArgs false
set_option maxHeartbeats 8000000
set_option maxRecDepth 100000
noncomputable def laws_FnSumsAndMeets.G6 : (G0_ : Prop) ×' (laws_FnSumsAndMeets.W G0_ → laws_FnSumsAndMeets.G2.2.1) := by
 constructor
 ·intro hG0_
  intro k A0 c0 l0 A1 c1 l1 r w hu27 HR0 HC0 HR1 HC1 za_1_0 A3 za_1_1 t521 A5 za_1_2 t522 t523 A6 za_1_3 t527 t528 A7 y532 Ny532 LMc8 y535 za_1_4 Ny535 t538 t539 A9 za_1_5 t543 t544 t547 A10 zc_1_0 t549 t550 t553 A11 za_1_6 za_1_7 za_1_8 nd w13 gb526 w14 GW526 GE526 Ao16 co16 w17 gb531 w18 GW531 GE531 NB526_531 NB531_526 hnb19 hnc19 Ao21 co21 v533 w22 w24 Ao25 co25 w26 gb542 w27 GW542 GE542 NB526_542 NB542_526 NB531_542 NB542_531 hnb28 hnc28 hnb29 hnc29 Ao31 co31 w34 gb548 w35 GW548 GE548 NB526_548 NB548_526 NB531_548 NB548_531 NB542_548 NB548_542 hnb36 hnc36 hnb37 hnc37 hnb38 hnc38 Ao40 co40 w43 gb554 w44 HO537 zc_1_1 zc_1_2 zc_1_3 zc_1_4 zc_1_5 zc_1_6 GW554 GE554 NB526_554 NB554_526 NB531_554 NB554_531 NB542_554 NB554_542 NB548_554 NB554_548 hnb45 hnc45 hnb46 hnc46 hnb47 hnc47 hnb48 hnc48 Ao50 co50 HO525 HO530 HO541 HO546 HO552 zc_1_7 zc_1_8 zc_1_9 zc_1_10 zc_1_11 zc_1_12 zc_1_13 zc_1_14 zc_1_15 zc_1_16 zc_1_17 zc_1_18 zc_1_19 zc_1_20 zc_1_21 zc_1_22 zc_1_23 zc_1_24 zc_1_25 zc_1_26 zc_1_27 zc_1_28 zc_1_29 zc_1_30 zc_1_31 zc_1_32 zc_1_33 zc_1_34 zc_1_35 zc_1_36 zc_1_37 zc_1_38 zc_1_39 zc_1_40 zc_1_41 zc_1_42 zc_1_43 zc_1_44 zc_1_45 zc_1_46 zc_1_47 zc_1_48 zc_1_49 zc_1_50 zc_1_51 zc_1_52 zc_1_53 zc_1_54 zc_1_55 zc_1_56 zc_1_57 zc_1_58 zc_1_59 zc_1_60 zc_1_61 zc_1_62 zc_1_63 zc_1_64 zc_1_65 zc_1_66 zc_1_67 zc_1_68 zc_1_69 zc_1_70 zc_1_71 zc_1_72 zc_1_73 zc_1_74 zc_1_75 zc_1_76 zc_1_77 zc_1_78 zc_1_79 zc_1_80 zc_1_81 zc_1_82 zc_1_83 zc_1_84 zc_1_85 zc_1_86 zc_1_87 zc_1_88 zc_1_89 zc_1_90 zc_1_91 zc_1_92 zc_1_93 zc_1_94 zc_1_95 zc_1_96 zc_1_97 zc_1_98 zc_1_99 zc_1_100 zc_1_101 zc_1_102 zc_1_103 zc_1_104 zc_1_105 zc_1_106 zc_1_107 zc_1_108 zc_1_109 zc_1_110 zc_1_111 zc_1_112 zc_1_113 zc_1_114 zc_1_115 zc_1_116 zc_1_117 zc_1_118 zc_1_119 zc_1_120 zc_1_121 zc_1_122 zc_1_123 zc_1_124 zc_1_125 zc_1_126 zc_1_127 zc_1_128 zc_1_129 zc_1_130 zc_1_131 zc_1_132 zc_1_133 zc_1_134 zc_1_135 zc_1_136 zc_1_137 zc_1_138 zc_1_139 zc_1_140 zc_1_141 zc_1_142 zc_1_143 zc_1_144 zc_1_145 zc_1_146 zc_1_147 zc_1_148 zc_1_149 zc_1_150 zc_1_151 zc_1_152 zc_1_153 zc_1_154 zc_1_155 zc_1_156 zc_1_157 zc_1_158 zc_1_159 zc_1_160 zc_1_161 zc_1_162 zc_1_163 zc_1_164 zc_1_165 zc_1_166 zc_1_167 zc_1_168 zc_1_169 zc_1_170 zc_1_171 zc_1_172 zc_1_173 zc_1_174 zc_1_175 zc_1_176 zc_1_177 zc_1_178 zc_1_179 zc_1_180 zc_1_181 zc_1_182 zc_1_183 zc_1_184 zc_1_185 zc_1_186 zc_1_187 zc_1_188 zc_1_189 zc_1_190 zc_1_191 zc_1_192 zc_1_193 zc_1_194 zc_1_195 zc_1_196 zc_1_197 zc_1_198 zc_1_199 zc_1_200 zc_1_201 zc_1_202 zc_1_203 zc_1_204 zc_1_205 zc_1_206 zc_1_207 zc_1_208 zc_1_209 zc_1_210 zc_1_211 zc_1_212 zc_1_213 zc_1_214 zc_1_215 zc_1_216 zc_1_217 zc_1_218 zc_1_219 zc_1_220 zc_1_221 zc_1_222 zc_1_223 zc_1_224 zc_1_225 zc_1_226 zc_1_227 zc_1_228 zc_1_229 zc_1_230 zc_1_231 zc_1_232 zc_1_233 zc_1_234 zc_1_235 kj11 HJ11 zc_1_236 t557 t558 A93 zc_1_237 t559 t560 A94 zc_1_238 t561 t562 A95 zc_1_239 t563 t564 t567 A96 zc_1_240 t569 t570 t573 A97 zc_1_241 t575 t576 t579 A98 H t581 t582 t585 A99 HC100 hnb101 hnc101 hnb102 hnc102 hnb103 hnc103 hnb104 hnc104 hcz105_0 hcz105_1 hfz105_0 hfz105_1 hnb106 hnc106 hnb107 hnc107 hnb108 hnc108 hcz109_0 hcz109_1 hfz109_0 hfz109_1 w110 hcz111_0 hcz111_1 hfz111_0 hfz111_1 hnb112 hnc112 hnb113 hnc113 hcz114_0 hcz114_1 hfz114_0 hfz114_1 w115 hnb116 hnc116 hcz117_0 hcz117_1 hfz117_0 hfz117_1 hcz118_0 hcz118_1 hfz118_0 hfz118_1 w119 hcz120_0 hcz120_1 hfz120_0 hfz120_1 w121 gb568 w122 GW568 GE568 NB526_568 NB568_526 NB531_568 NB568_531 NB542_568 NB568_542 NB548_568 NB568_548 NB554_568 NB568_554 hnb123 hnc123 hnb124 hnc124 hnb125 hnc125 hnb126 hnc126 hnb127 hnc127 hcz128_0 hcz128_1 hfz128_0 hfz128_1 Ao129 co129 hcz130_0 hcz130_1 hfz130_0 hfz130_1 w131 gb574 w132 GW574 GE574 NB526_574 NB574_526 NB531_574 NB574_531 NB542_574 NB574_542 NB548_574 NB574_548 NB554_574 NB574_554 NB568_574 NB574_568 hnb133 hnc133 hnb134 hnc134 hnb135 hnc135 hnb136 hnc136 hnb137 hnc137 hnb138 hnc138 hcz139_0 hcz139_1 hfz139_0 hfz139_1 Ao140 co140 hcz141_0 hcz141_1 hfz141_0 hfz141_1 w142 gb580 w143 GW580 GE580 NB526_580 NB580_526 NB531_580 NB580_531 NB542_580 NB580_542 NB548_580 NB580_548 NB554_580 NB580_554 NB568_580 NB580_568 NB574_580 NB580_574 hnb144 hnc144 hnb145 hnc145 hnb146 hnc146 hnb147 hnc147 hnb148 hnc148 hnb149 hnc149 hnb150 hnc150 hcz151_0 hcz151_1 hfz151_0 hfz151_1 Ao152 co152 hcz153_0 hcz153_1 hfz153_0 hfz153_1 hcz154_0 hcz154_1 hfz154_0 hfz154_1 w155 gb586 w156 BK526 BK531 BK542 BK548 BK554 BK568 BK574 BK580 HB BK586 GW586 GE586 NB526_586 NB586_526 NB531_586 NB586_531 NB542_586 NB586_542 NB548_586 NB586_548 NB554_586 NB586_554 NB568_586 NB586_568 NB574_586 NB586_574 NB580_586 NB586_580 hnb157 hnc157 hnb158 hnc158 hnb159 hnc159 hnb160 hnc160 hnb161 hnc161 hnb162 hnc162 hnb163 hnc163 hnb164 hnc164 hcz165_0 hcz165_1 hfz165_0 hfz165_1 Ao166 co166 HO_527001 HO_532001 HO_543001 HO_549001 HO_555001 HO566 HO572 HO578 HO584 zc_1_242 zc_1_243 zc_1_244 zc_1_245 wc u37 u38 u39 u40 u41 u42 u43 u44 u45 u46 u47 u48 u49 u50 u51 u52 u53 u54 u55 u56 u57 u58 u59 u60 u61 u62 u63 u64 u65 u66 u67 u68 u69 u70 u71 u72 u73 u74 u75 u76 u77 u78 u79 u80 u81 u82 u83 u84 u85 u86 u87 u88 u89 u90 u91 u92 u93 u94 u95 u96 u97 u98 u99 u100 u101 u102 u103 u104 u105 u106 u107 u108 u109 u110 u111 u112 u113 u114 u115 u116 u117 u118 u119 u120 u121 u122 u123 u124 u125 u126 u127 u128 u129 u130 u131 u132 u133 u134 u135 u136 u137 u138 u139 u140 u141 u142 u143 u144 u145 u146 u147 u148 u149 u150 u151 u152 u153 u154 u155 u156 u157 u158 u159 u160 u161 u162 u163 u164 u165 u166 u167 u168 u169 u170 u171 u172 u173 u174 u175 u176 u177 u178 u179 u180 u181 u182 u183 u184 u185 u186 u187 u188 u189 u190 u191 u192 u193 u194 u195 u196 u197 u198 u199 u200 u201 u202 u203 u204 u205 u206 u207 u208 u209 u210 u211 u212 u213 u214 u215 u216 u217 u218 u219 u220 u221 u222 u223 u224 u225 u226 u227 u228 u229 u230 u231 u232 u233 u234 u235 u236 u237 u238 u239 u240 u241 u242 u243 u244 u245 u246 u247 u248 u249 u250 u251 u252 u253 u254 u255 u256 u257 u258 u259 u260 u261 u262 u263 u264 u265 hcut
  clear HC100
  try clear c1
  try clear c4
  try clear c8
  try clear c51
  try clear c51b0
  try clear c51b1
  try clear c52
  try clear c52b0
  try clear c52b1
  try clear c54
  try clear c56
  try clear c92
  try clear c167
  try clear c167b0
  try clear c167b1
  try clear c168
  try clear c168b0
  try clear c168b1
  try clear c169
  try clear c169b0
  try clear c169b1
  try clear c170
  try clear c171
  try clear c172
  try clear c173
  try clear c173b0
  try clear c173b1
  try clear c174
  try clear c174b0
  try clear c174b1
  try clear c175
  try clear c175b0
  try clear c175b1
  try clear c176
  try clear c176b0
  try clear c176b1
  try clear hcz105_0
  try clear hcz105_1
  try clear hcz109_0
  try clear hcz109_1
  try clear hcz111_0
  try clear hcz111_1
  try clear hcz114_0
  try clear hcz114_1
  try clear hcz117_0
  try clear hcz117_1
  try clear hcz118_0
  try clear hcz118_1
  try clear hcz120_0
  try clear hcz120_1
  try clear hcz128_0
  try clear hcz128_1
  try clear hcz130_0
  try clear hcz130_1
  try clear hcz139_0
  try clear hcz139_1
  try clear hcz141_0
  try clear hcz141_1
  try clear hcz151_0
  try clear hcz151_1
  try clear hcz153_0
  try clear hcz153_1
  try clear hcz154_0
  try clear hcz154_1
  try clear hcz15_0
  try clear hcz15_1
  try clear hcz165_0
  try clear hcz165_1
  try clear hcz186_0
  try clear hcz186_1
  try clear hcz194_0
  try clear hcz194_1
  try clear hcz20_0
  try clear hcz20_1
  try clear hcz30_0
  try clear hcz30_1
  try clear hcz32_0
  try clear hcz32_1
  try clear hcz33_0
  try clear hcz33_1
  try clear hcz39_0
  try clear hcz39_1
  try clear hcz41_0
  try clear hcz41_1
  try clear hcz42_0
  try clear hcz42_1
  try clear hcz49_0
  try clear hcz49_1
  try clear hcz61_0
  try clear hcz61_1
  try clear hcz66_0
  try clear hcz66_1
  try clear hcz68_0
  try clear hcz68_1
  try clear hcz69_0
  try clear hcz69_1
  try clear hcz72_0
  try clear hcz72_1
  try clear hcz74_0
  try clear hcz74_1
  try clear hcz79_0
  try clear hcz79_1
  try clear hcz84_0
  try clear hcz84_1
  try clear hcz90_0
  try clear hcz90_1
  try clear hfz105_0
  try clear hfz105_1
  try clear hfz109_0
  try clear hfz109_1
  try clear hfz111_0
  try clear hfz111_1
  try clear hfz114_0
  try clear hfz114_1
  try clear hfz117_0
  try clear hfz117_1
  try clear hfz118_0
  try clear hfz118_1
  try clear hfz120_0
  try clear hfz120_1
  try clear hfz128_0
  try clear hfz128_1
  try clear hfz130_0
  try clear hfz130_1
  try clear hfz139_0
  try clear hfz139_1
  try clear hfz141_0
  try clear hfz141_1
  try clear hfz151_0
  try clear hfz151_1
  try clear hfz153_0
  try clear hfz153_1
  try clear hfz154_0
  try clear hfz154_1
  try clear hfz15_0
  try clear hfz15_1
  try clear hfz165_0
  try clear hfz165_1
  try clear hfz186_0
  try clear hfz186_1
  try clear hfz194_0
  try clear hfz194_1
  try clear hfz20_0
  try clear hfz20_1
  try clear hfz30_0
  try clear hfz30_1
  try clear hfz32_0
  try clear hfz32_1
  try clear hfz33_0
  try clear hfz33_1
  try clear hfz39_0
  try clear hfz39_1
  try clear hfz41_0
  try clear hfz41_1
  try clear hfz42_0
  try clear hfz42_1
  try clear hfz49_0
  try clear hfz49_1
  try clear hfz61_0
  try clear hfz61_1
  try clear hfz66_0
  try clear hfz66_1
  try clear hfz68_0
  try clear hfz68_1
  try clear hfz69_0
  try clear hfz69_1
  try clear hfz72_0
  try clear hfz72_1
  try clear hfz74_0
  try clear hfz74_1
  try clear hfz79_0
  try clear hfz79_1
  try clear hfz84_0
  try clear hfz84_1
  try clear hfz90_0
  try clear hfz90_1
  obtain ⟨kq, x181_99, rfl, HA, HJ99, HO_527001, HO_532001, HO_543001, HO_549001, HO_555001, HO_569001, HO_575001, HO_581001, HO_587001, BK526, BK531, BK542, BK548, BK554, BK568, BK574, BK580, BK586, HB⟩ := hcut
  cases kq with
  | zero => exact absurd HA.out (by simp [laws_FnSumsAndMeets.j1])
  | succ kj99 =>
   have H := HA.out
   clear HA
   simp only [laws_FnSumsAndMeets.j1] at H
   by_cases c196 : x181_99 = true
   ·subst c196
    rw [if_pos rfl] at H
    obtain rfl := Option.some.inj H
    go_wp2
    go_ret
    exact ⟨tE, tB⟩
   replace c196 := Bool.eq_false_iff.mpr c196
   subst c196
   rw [if_neg (show ¬ (false = true) by decide)] at H
   obtain ⟨⟨t588, t589⟩, A197, H⟩ := qBd H
   (try dsimp only at H)
   obtain ⟨⟨t590, t591⟩, A198, H⟩ := qBd H
   (try dsimp only at H)
   obtain ⟨⟨t592, t593⟩, A199, H⟩ := qBd H
   (try dsimp only at H)
   obtain ⟨⟨t594, t595⟩, A200, H⟩ := qBd H
   (try dsimp only at H)
   obtain ⟨⟨t596, t597⟩, A201, H⟩ := qBd H
   (try dsimp only at H)
   by_cases c202 : t589 = 0
   rotate_left
   ·rw [if_neg c202] at H
    have c202b0 := beq_eq_false_iff_ne.mpr c202
    have c202b1 := bne_iff_ne.mpr c202
    obtain rfl := Option.some.inj H
    have hnb633 := NB526_531.out
    have hnc633 := NB531_526.out
    have hnb634 := NB526_542.out
    have hnc634 := NB542_526.out
    have hnb635 := NB526_548.out
    have hnc635 := NB548_526.out
    have hnb636 := NB526_554.out
    have hnc636 := NB554_526.out
    have hnb637 := NB526_568.out
    have hnc637 := NB568_526.out
    have hnb638 := NB526_574.out
    have hnc638 := NB574_526.out
    have hnb639 := NB526_580.out
    have hnc639 := NB580_526.out
    have hnb640 := NB526_586.out
    have hnc640 := NB586_526.out
    have hcz641_0 : wc.cell? ⟨gb526, 0, none⟩ = some (.int .i64 t522) := (kQC BK526.out 0).trans rfl
    have hcz641_1 : wc.cell? ⟨gb526, 1, none⟩ = some (.slice Ao16 t523.length co16) := (kQC BK526.out 1).trans rfl
    have hfz641_0 := kQF BK526.out 0
    have hfz641_1 := kQF BK526.out 1
    have hnb642 := NB531_542.out
    have hnc642 := NB542_531.out
    have hnb643 := NB531_548.out
    have hnc643 := NB548_531.out
    have hnb644 := NB531_554.out
    have hnc644 := NB554_531.out
    have hnb645 := NB531_568.out
    have hnc645 := NB568_531.out
    have hnb646 := NB531_574.out
    have hnc646 := NB574_531.out
    have hnb647 := NB531_580.out
    have hnc647 := NB580_531.out
    have hnb648 := NB531_586.out
    have hnc648 := NB586_531.out
    have hcz649_0 : wc.cell? ⟨gb531, 0, none⟩ = some (.int .i64 t527) := (kQC BK531.out 0).trans rfl
    have hcz649_1 : wc.cell? ⟨gb531, 1, none⟩ = some (.slice Ao21 t528.length co21) := (kQC BK531.out 1).trans rfl
    have hfz649_0 := kQF BK531.out 0
    have hfz649_1 := kQF BK531.out 1
    go_wp2_with (first | ((with_reducible refine gQc (f := 25) rfl ?_); refine goesL_ (some 185) rfl rfl Try.func25 (by kernel_rfl) rfl #[.agg #[.int .i64 t522, .slice Ao16 t523.length co16], .agg #[.int .i64 t527, .slice Ao21 t528.length co21]] rfl tL ?_; (with_reducible refine (impl_DistanceOf.calls kj99 t522 _ _ t523 t527 _ _ t528 t588 t589 _ ?s1 ?s2 ?s3 ?s4 A197.out).mono ?_); (case s1 => exact tC ((Kd.R_reads' HO_527001.out).2.2)); (case s2 => exact (Kd.R_reads' HO_527001.out).2.1); (case s3 => exact tC ((Kd.R_reads' HO_532001.out).2.2)); (case s4 => exact (Kd.R_reads' HO_532001.out).2.1); rintro e w650 ⟨rfl, hb⟩; refine ⟨_, rfl, ?_⟩; refine qM19 (Kd.R_below (tR HO_527001.out) hb) (Kd.R_below (tR HO_532001.out) hb) (Kd.R_below (tR HO_543001.out) hb) (Kd.R_below (tR HO_549001.out) hb) (Kd.R_below (tR HO_555001.out) hb) (Kd.R_below (tR HO_569001.out) hb) (Kd.R_below (tR HO_575001.out) hb) (Kd.R_below (tR HO_581001.out) hb) (Kd.R_below (tR HO_587001.out) hb) (tQ BK526.out hb) (tQ BK531.out hb) (tQ BK542.out hb) (tQ BK548.out hb) (tQ BK554.out hb) (tQ BK568.out hb) (tQ BK574.out hb) (tQ BK580.out hb) (tQ BK586.out hb) (bQT tB hb) ?_; clear HO_527001 HO_532001 HO_543001 HO_549001 HO_555001 HO_569001 HO_575001 HO_581001 HO_587001 BK526 BK531 BK542 BK548 BK554 BK568 BK574 BK580 BK586 HB; intro HO_527001 HO_532001 HO_543001 HO_549001 HO_555001 HO_569001 HO_575001 HO_581001 HO_587001 BK526 BK531 BK542 BK548 BK554 BK568 BK574 BK580 BK586 HB; (try clear hb); (try clear hb2); (try clear hk); (try clear hi); have hcz651_0 : w650.cell? ⟨gb531, 0, none⟩ = some (.int .i64 t527) := (kQC BK531.out 0).trans rfl; have hcz651_1 : w650.cell? ⟨gb531, 1, none⟩ = some (.slice Ao21 t528.length co21) := (kQC BK531.out 1).trans rfl; have hfz651_0 := kQF BK531.out 0; have hfz651_1 := kQF BK531.out 1; have hnb652 := NB542_548.out; have hnc652 := NB548_542.out; have hnb653 := NB542_554.out; have hnc653 := NB554_542.out; have hnb654 := NB542_568.out; have hnc654 := NB568_542.out; have hnb655 := NB542_574.out; have hnc655 := NB574_542.out; have hnb656 := NB542_580.out; have hnc656 := NB580_542.out; have hnb657 := NB542_586.out; have hnc657 := NB586_542.out; have hcz658_0 : w650.cell? ⟨gb542, 0, none⟩ = some (.int .i64 t538) := (kQC BK542.out 0).trans rfl; have hcz658_1 : w650.cell? ⟨gb542, 1, none⟩ = some (.slice Ao31 t539.length co31) := (kQC BK542.out 1).trans rfl; have hfz658_0 := kQF BK542.out 0; have hfz658_1 := kQF BK542.out 1) | ((with_reducible refine gQc (f := 25) rfl ?_); refine goesL_ (some 191) rfl rfl Try.func25 (by kernel_rfl) rfl #[.agg #[.int .i64 t527, .slice Ao21 t528.length co21], .agg #[.int .i64 t538, .slice Ao31 t539.length co31]] rfl tL ?_; (with_reducible refine (impl_DistanceOf.calls kj99 t527 _ _ t528 t538 _ _ t539 t590 t591 _ ?s1 ?s2 ?s3 ?s4 A198.out).mono ?_); (case s1 => exact tC ((Kd.R_reads' HO_532001.out).2.2)); (case s2 => exact (Kd.R_reads' HO_532001.out).2.1); (case s3 => exact tC ((Kd.R_reads' HO_543001.out).2.2)); (case s4 => exact (Kd.R_reads' HO_543001.out).2.1); rintro e w659 ⟨rfl, hb⟩; refine ⟨_, rfl, ?_⟩; refine qM19 (Kd.R_below (tR HO_527001.out) hb) (Kd.R_below (tR HO_532001.out) hb) (Kd.R_below (tR HO_543001.out) hb) (Kd.R_below (tR HO_549001.out) hb) (Kd.R_below (tR HO_555001.out) hb) (Kd.R_below (tR HO_569001.out) hb) (Kd.R_below (tR HO_575001.out) hb) (Kd.R_below (tR HO_581001.out) hb) (Kd.R_below (tR HO_587001.out) hb) (tQ BK526.out hb) (tQ BK531.out hb) (tQ BK542.out hb) (tQ BK548.out hb) (tQ BK554.out hb) (tQ BK568.out hb) (tQ BK574.out hb) (tQ BK580.out hb) (tQ BK586.out hb) (bQT tB hb) ?_; clear HO_527001 HO_532001 HO_543001 HO_549001 HO_555001 HO_569001 HO_575001 HO_581001 HO_587001 BK526 BK531 BK542 BK548 BK554 BK568 BK574 BK580 BK586 HB; intro HO_527001 HO_532001 HO_543001 HO_549001 HO_555001 HO_569001 HO_575001 HO_581001 HO_587001 BK526 BK531 BK542 BK548 BK554 BK568 BK574 BK580 BK586 HB; (try clear hb); (try clear hb2); (try clear hk); (try clear hi); have hcz660_0 : w659.cell? ⟨gb526, 0, none⟩ = some (.int .i64 t522) := (kQC BK526.out 0).trans rfl; have hcz660_1 : w659.cell? ⟨gb526, 1, none⟩ = some (.slice Ao16 t523.length co16) := (kQC BK526.out 1).trans rfl; have hfz660_0 := kQF BK526.out 0; have hfz660_1 := kQF BK526.out 1; have hcz661_0 : w659.cell? ⟨gb542, 0, none⟩ = some (.int .i64 t538) := (kQC BK542.out 0).trans rfl; have hcz661_1 : w659.cell? ⟨gb542, 1, none⟩ = some (.slice Ao31 t539.length co31) := (kQC BK542.out 1).trans rfl; have hfz661_0 := kQF BK542.out 0; have hfz661_1 := kQF BK542.out 1) | ((with_reducible refine gQc (f := 25) rfl ?_); refine goesL_ (some 197) rfl rfl Try.func25 (by kernel_rfl) rfl #[.agg #[.int .i64 t522, .slice Ao16 t523.length co16], .agg #[.int .i64 t538, .slice Ao31 t539.length co31]] rfl tL ?_; (with_reducible refine (impl_DistanceOf.calls kj99 t522 _ _ t523 t538 _ _ t539 t592 t593 _ ?s1 ?s2 ?s3 ?s4 A199.out).mono ?_); (case s1 => exact tC ((Kd.R_reads' HO_527001.out).2.2)); (case s2 => exact (Kd.R_reads' HO_527001.out).2.1); (case s3 => exact tC ((Kd.R_reads' HO_543001.out).2.2)); (case s4 => exact (Kd.R_reads' HO_543001.out).2.1); rintro e w662 ⟨rfl, hb⟩; refine ⟨_, rfl, ?_⟩; refine qM19 (Kd.R_below (tR HO_527001.out) hb) (Kd.R_below (tR HO_532001.out) hb) (Kd.R_below (tR HO_543001.out) hb) (Kd.R_below (tR HO_549001.out) hb) (Kd.R_below (tR HO_555001.out) hb) (Kd.R_below (tR HO_569001.out) hb) (Kd.R_below (tR HO_575001.out) hb) (Kd.R_below (tR HO_581001.out) hb) (Kd.R_below (tR HO_587001.out) hb) (tQ BK526.out hb) (tQ BK531.out hb) (tQ BK542.out hb) (tQ BK548.out hb) (tQ BK554.out hb) (tQ BK568.out hb) (tQ BK574.out hb) (tQ BK580.out hb) (tQ BK586.out hb) (bQT tB hb) ?_; clear HO_527001 HO_532001 HO_543001 HO_549001 HO_555001 HO_569001 HO_575001 HO_581001 HO_587001 BK526 BK531 BK542 BK548 BK554 BK568 BK574 BK580 BK586 HB; intro HO_527001 HO_532001 HO_543001 HO_549001 HO_555001 HO_569001 HO_575001 HO_581001 HO_587001 BK526 BK531 BK542 BK548 BK554 BK568 BK574 BK580 BK586 HB; (try clear hb); (try clear hb2); (try clear hk); (try clear hi); have hcz663_0 : w662.cell? ⟨gb531, 0, none⟩ = some (.int .i64 t527) := (kQC BK531.out 0).trans rfl; have hcz663_1 : w662.cell? ⟨gb531, 1, none⟩ = some (.slice Ao21 t528.length co21) := (kQC BK531.out 1).trans rfl; have hfz663_0 := kQF BK531.out 0; have hfz663_1 := kQF BK531.out 1; have hcz664_0 : w662.cell? ⟨gb526, 0, none⟩ = some (.int .i64 t522) := (kQC BK526.out 0).trans rfl; have hcz664_1 : w662.cell? ⟨gb526, 1, none⟩ = some (.slice Ao16 t523.length co16) := (kQC BK526.out 1).trans rfl; have hfz664_0 := kQF BK526.out 0; have hfz664_1 := kQF BK526.out 1) | ((with_reducible refine gQc (f := 25) rfl ?_); refine goesL_ (some 203) rfl rfl Try.func25 (by kernel_rfl) rfl #[.agg #[.int .i64 t527, .slice Ao21 t528.length co21], .agg #[.int .i64 t522, .slice Ao16 t523.length co16]] rfl tL ?_; (with_reducible refine (impl_DistanceOf.calls kj99 t527 _ _ t528 t522 _ _ t523 t594 t595 _ ?s1 ?s2 ?s3 ?s4 A200.out).mono ?_); (case s1 => exact tC ((Kd.R_reads' HO_532001.out).2.2)); (case s2 => exact (Kd.R_reads' HO_532001.out).2.1); (case s3 => exact tC ((Kd.R_reads' HO_527001.out).2.2)); (case s4 => exact (Kd.R_reads' HO_527001.out).2.1); rintro e w665 ⟨rfl, hb⟩; refine ⟨_, rfl, ?_⟩; refine qM19 (Kd.R_below (tR HO_527001.out) hb) (Kd.R_below (tR HO_532001.out) hb) (Kd.R_below (tR HO_543001.out) hb) (Kd.R_below (tR HO_549001.out) hb) (Kd.R_below (tR HO_555001.out) hb) (Kd.R_below (tR HO_569001.out) hb) (Kd.R_below (tR HO_575001.out) hb) (Kd.R_below (tR HO_581001.out) hb) (Kd.R_below (tR HO_587001.out) hb) (tQ BK526.out hb) (tQ BK531.out hb) (tQ BK542.out hb) (tQ BK548.out hb) (tQ BK554.out hb) (tQ BK568.out hb) (tQ BK574.out hb) (tQ BK580.out hb) (tQ BK586.out hb) (bQT tB hb) ?_; clear HO_527001 HO_532001 HO_543001 HO_549001 HO_555001 HO_569001 HO_575001 HO_581001 HO_587001 BK526 BK531 BK542 BK548 BK554 BK568 BK574 BK580 BK586 HB; intro HO_527001 HO_532001 HO_543001 HO_549001 HO_555001 HO_569001 HO_575001 HO_581001 HO_587001 BK526 BK531 BK542 BK548 BK554 BK568 BK574 BK580 BK586 HB; (try clear hb); (try clear hb2); (try clear hk); (try clear hi); have hnb666 := NB568_548.out; have hnc666 := NB548_568.out; have hnb667 := NB568_554.out; have hnc667 := NB554_568.out; have hnb668 := NB568_574.out; have hnc668 := NB574_568.out; have hnb669 := NB568_580.out; have hnc669 := NB580_568.out; have hnb670 := NB568_586.out; have hnc670 := NB586_568.out; have hcz671_0 : w665.cell? ⟨gb568, 0, none⟩ = some (.int .i64 t563) := (kQC BK568.out 0).trans rfl; have hcz671_1 : w665.cell? ⟨gb568, 1, none⟩ = some (.slice Ao129 t564.length co129) := (kQC BK568.out 1).trans rfl; have hfz671_0 := kQF BK568.out 0; have hfz671_1 := kQF BK568.out 1; have hnb672 := NB574_548.out; have hnc672 := NB548_574.out; have hnb673 := NB574_554.out; have hnc673 := NB554_574.out; have hnb674 := NB574_580.out; have hnc674 := NB580_574.out; have hnb675 := NB574_586.out; have hnc675 := NB586_574.out; have hcz676_0 : w665.cell? ⟨gb574, 0, none⟩ = some (.int .i64 t569) := (kQC BK574.out 0).trans rfl; have hcz676_1 : w665.cell? ⟨gb574, 1, none⟩ = some (.slice Ao140 t570.length co140) := (kQC BK574.out 1).trans rfl; have hfz676_0 := kQF BK574.out 0; have hfz676_1 := kQF BK574.out 1) | ((with_reducible refine gQc (f := 25) rfl ?_); refine goesL_ (some 209) rfl rfl Try.func25 (by kernel_rfl) rfl #[.agg #[.int .i64 t563, .slice Ao129 t564.length co129], .agg #[.int .i64 t569, .slice Ao140 t570.length co140]] rfl tL ?_; (with_reducible refine (impl_DistanceOf.calls kj99 t563 _ _ t564 t569 _ _ t570 t596 t597 _ ?s1 ?s2 ?s3 ?s4 A201.out).mono ?_); (case s1 => exact tC ((Kd.R_reads' HO_569001.out).2.2)); (case s2 => exact (Kd.R_reads' HO_569001.out).2.1); (case s3 => exact tC ((Kd.R_reads' HO_575001.out).2.2)); (case s4 => exact (Kd.R_reads' HO_575001.out).2.1); rintro e w677 ⟨rfl, hb⟩; refine ⟨_, rfl, ?_⟩; refine qM19 (Kd.R_below (tR HO_527001.out) hb) (Kd.R_below (tR HO_532001.out) hb) (Kd.R_below (tR HO_543001.out) hb) (Kd.R_below (tR HO_549001.out) hb) (Kd.R_below (tR HO_555001.out) hb) (Kd.R_below (tR HO_569001.out) hb) (Kd.R_below (tR HO_575001.out) hb) (Kd.R_below (tR HO_581001.out) hb) (Kd.R_below (tR HO_587001.out) hb) (tQ BK526.out hb) (tQ BK531.out hb) (tQ BK542.out hb) (tQ BK548.out hb) (tQ BK554.out hb) (tQ BK568.out hb) (tQ BK574.out hb) (tQ BK580.out hb) (tQ BK586.out hb) (bQT tB hb) ?_; clear HO_527001 HO_532001 HO_543001 HO_549001 HO_555001 HO_569001 HO_575001 HO_581001 HO_587001 BK526 BK531 BK542 BK548 BK554 BK568 BK574 BK580 BK586 HB; intro HO_527001 HO_532001 HO_543001 HO_549001 HO_555001 HO_569001 HO_575001 HO_581001 HO_587001 BK526 BK531 BK542 BK548 BK554 BK568 BK574 BK580 BK586 HB; (try clear hb); (try clear hb2); (try clear hk); (try clear hi)))
    go_ret
    exact ⟨tE, tB⟩
   rw [if_pos c202] at H
   have c202b0 := beq_iff_eq.mpr c202
   have c202b1 := bne_eq_false_iff_eq.mpr c202
   clear c202
   by_cases c203 : t591 = 0
   rotate_left
   ·rw [if_neg c203] at H
    have c203b0 := beq_eq_false_iff_ne.mpr c203
    have c203b1 := bne_iff_ne.mpr c203
    obtain rfl := Option.some.inj H
    have hnb588 := NB526_531.out
    have hnc588 := NB531_526.out
    have hnb589 := NB526_542.out
    have hnc589 := NB542_526.out
    have hnb590 := NB526_548.out
    have hnc590 := NB548_526.out
    have hnb591 := NB526_554.out
    have hnc591 := NB554_526.out
    have hnb592 := NB526_568.out
    have hnc592 := NB568_526.out
    have hnb593 := NB526_574.out
    have hnc593 := NB574_526.out
    have hnb594 := NB526_580.out
    have hnc594 := NB580_526.out
    have hnb595 := NB526_586.out
    have hnc595 := NB586_526.out
    have hcz596_0 : wc.cell? ⟨gb526, 0, none⟩ = some (.int .i64 t522) := (kQC BK526.out 0).trans rfl
    have hcz596_1 : wc.cell? ⟨gb526, 1, none⟩ = some (.slice Ao16 t523.length co16) := (kQC BK526.out 1).trans rfl
    have hfz596_0 := kQF BK526.out 0
    have hfz596_1 := kQF BK526.out 1
    have hnb597 := NB531_542.out
    have hnc597 := NB542_531.out
    have hnb598 := NB531_548.out
    have hnc598 := NB548_531.out
    have hnb599 := NB531_554.out
    have hnc599 := NB554_531.out
    have hnb600 := NB531_568.out
    have hnc600 := NB568_531.out
    have hnb601 := NB531_574.out
    have hnc601 := NB574_531.out
    have hnb602 := NB531_580.out
    have hnc602 := NB580_531.out
    have hnb603 := NB531_586.out
    have hnc603 := NB586_531.out
    have hcz604_0 : wc.cell? ⟨gb531, 0, none⟩ = some (.int .i64 t527) := (kQC BK531.out 0).trans rfl
    have hcz604_1 : wc.cell? ⟨gb531, 1, none⟩ = some (.slice Ao21 t528.length co21) := (kQC BK531.out 1).trans rfl
    have hfz604_0 := kQF BK531.out 0
    have hfz604_1 := kQF BK531.out 1
    go_wp2_with (first | ((with_reducible refine gQc (f := 25) rfl ?_); refine goesL_ (some 185) rfl rfl Try.func25 (by kernel_rfl) rfl #[.agg #[.int .i64 t522, .slice Ao16 t523.length co16], .agg #[.int .i64 t527, .slice Ao21 t528.length co21]] rfl tL ?_; (with_reducible refine (impl_DistanceOf.calls kj99 t522 _ _ t523 t527 _ _ t528 t588 t589 _ ?s1 ?s2 ?s3 ?s4 A197.out).mono ?_); (case s1 => exact tC ((Kd.R_reads' HO_527001.out).2.2)); (case s2 => exact (Kd.R_reads' HO_527001.out).2.1); (case s3 => exact tC ((Kd.R_reads' HO_532001.out).2.2)); (case s4 => exact (Kd.R_reads' HO_532001.out).2.1); rintro e w605 ⟨rfl, hb⟩; refine ⟨_, rfl, ?_⟩; refine qM19 (Kd.R_below (tR HO_527001.out) hb) (Kd.R_below (tR HO_532001.out) hb) (Kd.R_below (tR HO_543001.out) hb) (Kd.R_below (tR HO_549001.out) hb) (Kd.R_below (tR HO_555001.out) hb) (Kd.R_below (tR HO_569001.out) hb) (Kd.R_below (tR HO_575001.out) hb) (Kd.R_below (tR HO_581001.out) hb) (Kd.R_below (tR HO_587001.out) hb) (tQ BK526.out hb) (tQ BK531.out hb) (tQ BK542.out hb) (tQ BK548.out hb) (tQ BK554.out hb) (tQ BK568.out hb) (tQ BK574.out hb) (tQ BK580.out hb) (tQ BK586.out hb) (bQT tB hb) ?_; clear HO_527001 HO_532001 HO_543001 HO_549001 HO_555001 HO_569001 HO_575001 HO_581001 HO_587001 BK526 BK531 BK542 BK548 BK554 BK568 BK574 BK580 BK586 HB; intro HO_527001 HO_532001 HO_543001 HO_549001 HO_555001 HO_569001 HO_575001 HO_581001 HO_587001 BK526 BK531 BK542 BK548 BK554 BK568 BK574 BK580 BK586 HB; (try clear hb); (try clear hb2); (try clear hk); (try clear hi); have hcz606_0 : w605.cell? ⟨gb531, 0, none⟩ = some (.int .i64 t527) := (kQC BK531.out 0).trans rfl; have hcz606_1 : w605.cell? ⟨gb531, 1, none⟩ = some (.slice Ao21 t528.length co21) := (kQC BK531.out 1).trans rfl; have hfz606_0 := kQF BK531.out 0; have hfz606_1 := kQF BK531.out 1; have hnb607 := NB542_548.out; have hnc607 := NB548_542.out; have hnb608 := NB542_554.out; have hnc608 := NB554_542.out; have hnb609 := NB542_568.out; have hnc609 := NB568_542.out; have hnb610 := NB542_574.out; have hnc610 := NB574_542.out; have hnb611 := NB542_580.out; have hnc611 := NB580_542.out; have hnb612 := NB542_586.out; have hnc612 := NB586_542.out; have hcz613_0 : w605.cell? ⟨gb542, 0, none⟩ = some (.int .i64 t538) := (kQC BK542.out 0).trans rfl; have hcz613_1 : w605.cell? ⟨gb542, 1, none⟩ = some (.slice Ao31 t539.length co31) := (kQC BK542.out 1).trans rfl; have hfz613_0 := kQF BK542.out 0; have hfz613_1 := kQF BK542.out 1) | ((with_reducible refine gQc (f := 25) rfl ?_); refine goesL_ (some 191) rfl rfl Try.func25 (by kernel_rfl) rfl #[.agg #[.int .i64 t527, .slice Ao21 t528.length co21], .agg #[.int .i64 t538, .slice Ao31 t539.length co31]] rfl tL ?_; (with_reducible refine (impl_DistanceOf.calls kj99 t527 _ _ t528 t538 _ _ t539 t590 t591 _ ?s1 ?s2 ?s3 ?s4 A198.out).mono ?_); (case s1 => exact tC ((Kd.R_reads' HO_532001.out).2.2)); (case s2 => exact (Kd.R_reads' HO_532001.out).2.1); (case s3 => exact tC ((Kd.R_reads' HO_543001.out).2.2)); (case s4 => exact (Kd.R_reads' HO_543001.out).2.1); rintro e w614 ⟨rfl, hb⟩; refine ⟨_, rfl, ?_⟩; refine qM19 (Kd.R_below (tR HO_527001.out) hb) (Kd.R_below (tR HO_532001.out) hb) (Kd.R_below (tR HO_543001.out) hb) (Kd.R_below (tR HO_549001.out) hb) (Kd.R_below (tR HO_555001.out) hb) (Kd.R_below (tR HO_569001.out) hb) (Kd.R_below (tR HO_575001.out) hb) (Kd.R_below (tR HO_581001.out) hb) (Kd.R_below (tR HO_587001.out) hb) (tQ BK526.out hb) (tQ BK531.out hb) (tQ BK542.out hb) (tQ BK548.out hb) (tQ BK554.out hb) (tQ BK568.out hb) (tQ BK574.out hb) (tQ BK580.out hb) (tQ BK586.out hb) (bQT tB hb) ?_; clear HO_527001 HO_532001 HO_543001 HO_549001 HO_555001 HO_569001 HO_575001 HO_581001 HO_587001 BK526 BK531 BK542 BK548 BK554 BK568 BK574 BK580 BK586 HB; intro HO_527001 HO_532001 HO_543001 HO_549001 HO_555001 HO_569001 HO_575001 HO_581001 HO_587001 BK526 BK531 BK542 BK548 BK554 BK568 BK574 BK580 BK586 HB; (try clear hb); (try clear hb2); (try clear hk); (try clear hi); have hcz615_0 : w614.cell? ⟨gb526, 0, none⟩ = some (.int .i64 t522) := (kQC BK526.out 0).trans rfl; have hcz615_1 : w614.cell? ⟨gb526, 1, none⟩ = some (.slice Ao16 t523.length co16) := (kQC BK526.out 1).trans rfl; have hfz615_0 := kQF BK526.out 0; have hfz615_1 := kQF BK526.out 1; have hcz616_0 : w614.cell? ⟨gb542, 0, none⟩ = some (.int .i64 t538) := (kQC BK542.out 0).trans rfl; have hcz616_1 : w614.cell? ⟨gb542, 1, none⟩ = some (.slice Ao31 t539.length co31) := (kQC BK542.out 1).trans rfl; have hfz616_0 := kQF BK542.out 0; have hfz616_1 := kQF BK542.out 1) | ((with_reducible refine gQc (f := 25) rfl ?_); refine goesL_ (some 197) rfl rfl Try.func25 (by kernel_rfl) rfl #[.agg #[.int .i64 t522, .slice Ao16 t523.length co16], .agg #[.int .i64 t538, .slice Ao31 t539.length co31]] rfl tL ?_; (with_reducible refine (impl_DistanceOf.calls kj99 t522 _ _ t523 t538 _ _ t539 t592 t593 _ ?s1 ?s2 ?s3 ?s4 A199.out).mono ?_); (case s1 => exact tC ((Kd.R_reads' HO_527001.out).2.2)); (case s2 => exact (Kd.R_reads' HO_527001.out).2.1); (case s3 => exact tC ((Kd.R_reads' HO_543001.out).2.2)); (case s4 => exact (Kd.R_reads' HO_543001.out).2.1); rintro e w617 ⟨rfl, hb⟩; refine ⟨_, rfl, ?_⟩; refine qM19 (Kd.R_below (tR HO_527001.out) hb) (Kd.R_below (tR HO_532001.out) hb) (Kd.R_below (tR HO_543001.out) hb) (Kd.R_below (tR HO_549001.out) hb) (Kd.R_below (tR HO_555001.out) hb) (Kd.R_below (tR HO_569001.out) hb) (Kd.R_below (tR HO_575001.out) hb) (Kd.R_below (tR HO_581001.out) hb) (Kd.R_below (tR HO_587001.out) hb) (tQ BK526.out hb) (tQ BK531.out hb) (tQ BK542.out hb) (tQ BK548.out hb) (tQ BK554.out hb) (tQ BK568.out hb) (tQ BK574.out hb) (tQ BK580.out hb) (tQ BK586.out hb) (bQT tB hb) ?_; clear HO_527001 HO_532001 HO_543001 HO_549001 HO_555001 HO_569001 HO_575001 HO_581001 HO_587001 BK526 BK531 BK542 BK548 BK554 BK568 BK574 BK580 BK586 HB; intro HO_527001 HO_532001 HO_543001 HO_549001 HO_555001 HO_569001 HO_575001 HO_581001 HO_587001 BK526 BK531 BK542 BK548 BK554 BK568 BK574 BK580 BK586 HB; (try clear hb); (try clear hb2); (try clear hk); (try clear hi); have hcz618_0 : w617.cell? ⟨gb531, 0, none⟩ = some (.int .i64 t527) := (kQC BK531.out 0).trans rfl; have hcz618_1 : w617.cell? ⟨gb531, 1, none⟩ = some (.slice Ao21 t528.length co21) := (kQC BK531.out 1).trans rfl; have hfz618_0 := kQF BK531.out 0; have hfz618_1 := kQF BK531.out 1; have hcz619_0 : w617.cell? ⟨gb526, 0, none⟩ = some (.int .i64 t522) := (kQC BK526.out 0).trans rfl; have hcz619_1 : w617.cell? ⟨gb526, 1, none⟩ = some (.slice Ao16 t523.length co16) := (kQC BK526.out 1).trans rfl; have hfz619_0 := kQF BK526.out 0; have hfz619_1 := kQF BK526.out 1) | ((with_reducible refine gQc (f := 25) rfl ?_); refine goesL_ (some 203) rfl rfl Try.func25 (by kernel_rfl) rfl #[.agg #[.int .i64 t527, .slice Ao21 t528.length co21], .agg #[.int .i64 t522, .slice Ao16 t523.length co16]] rfl tL ?_; (with_reducible refine (impl_DistanceOf.calls kj99 t527 _ _ t528 t522 _ _ t523 t594 t595 _ ?s1 ?s2 ?s3 ?s4 A200.out).mono ?_); (case s1 => exact tC ((Kd.R_reads' HO_532001.out).2.2)); (case s2 => exact (Kd.R_reads' HO_532001.out).2.1); (case s3 => exact tC ((Kd.R_reads' HO_527001.out).2.2)); (case s4 => exact (Kd.R_reads' HO_527001.out).2.1); rintro e w620 ⟨rfl, hb⟩; refine ⟨_, rfl, ?_⟩; refine qM19 (Kd.R_below (tR HO_527001.out) hb) (Kd.R_below (tR HO_532001.out) hb) (Kd.R_below (tR HO_543001.out) hb) (Kd.R_below (tR HO_549001.out) hb) (Kd.R_below (tR HO_555001.out) hb) (Kd.R_below (tR HO_569001.out) hb) (Kd.R_below (tR HO_575001.out) hb) (Kd.R_below (tR HO_581001.out) hb) (Kd.R_below (tR HO_587001.out) hb) (tQ BK526.out hb) (tQ BK531.out hb) (tQ BK542.out hb) (tQ BK548.out hb) (tQ BK554.out hb) (tQ BK568.out hb) (tQ BK574.out hb) (tQ BK580.out hb) (tQ BK586.out hb) (bQT tB hb) ?_; clear HO_527001 HO_532001 HO_543001 HO_549001 HO_555001 HO_569001 HO_575001 HO_581001 HO_587001 BK526 BK531 BK542 BK548 BK554 BK568 BK574 BK580 BK586 HB; intro HO_527001 HO_532001 HO_543001 HO_549001 HO_555001 HO_569001 HO_575001 HO_581001 HO_587001 BK526 BK531 BK542 BK548 BK554 BK568 BK574 BK580 BK586 HB; (try clear hb); (try clear hb2); (try clear hk); (try clear hi); have hnb621 := NB568_548.out; have hnc621 := NB548_568.out; have hnb622 := NB568_554.out; have hnc622 := NB554_568.out; have hnb623 := NB568_574.out; have hnc623 := NB574_568.out; have hnb624 := NB568_580.out; have hnc624 := NB580_568.out; have hnb625 := NB568_586.out; have hnc625 := NB586_568.out; have hcz626_0 : w620.cell? ⟨gb568, 0, none⟩ = some (.int .i64 t563) := (kQC BK568.out 0).trans rfl; have hcz626_1 : w620.cell? ⟨gb568, 1, none⟩ = some (.slice Ao129 t564.length co129) := (kQC BK568.out 1).trans rfl; have hfz626_0 := kQF BK568.out 0; have hfz626_1 := kQF BK568.out 1; have hnb627 := NB574_548.out; have hnc627 := NB548_574.out; have hnb628 := NB574_554.out; have hnc628 := NB554_574.out; have hnb629 := NB574_580.out; have hnc629 := NB580_574.out; have hnb630 := NB574_586.out; have hnc630 := NB586_574.out; have hcz631_0 : w620.cell? ⟨gb574, 0, none⟩ = some (.int .i64 t569) := (kQC BK574.out 0).trans rfl; have hcz631_1 : w620.cell? ⟨gb574, 1, none⟩ = some (.slice Ao140 t570.length co140) := (kQC BK574.out 1).trans rfl; have hfz631_0 := kQF BK574.out 0; have hfz631_1 := kQF BK574.out 1) | ((with_reducible refine gQc (f := 25) rfl ?_); refine goesL_ (some 209) rfl rfl Try.func25 (by kernel_rfl) rfl #[.agg #[.int .i64 t563, .slice Ao129 t564.length co129], .agg #[.int .i64 t569, .slice Ao140 t570.length co140]] rfl tL ?_; (with_reducible refine (impl_DistanceOf.calls kj99 t563 _ _ t564 t569 _ _ t570 t596 t597 _ ?s1 ?s2 ?s3 ?s4 A201.out).mono ?_); (case s1 => exact tC ((Kd.R_reads' HO_569001.out).2.2)); (case s2 => exact (Kd.R_reads' HO_569001.out).2.1); (case s3 => exact tC ((Kd.R_reads' HO_575001.out).2.2)); (case s4 => exact (Kd.R_reads' HO_575001.out).2.1); rintro e w632 ⟨rfl, hb⟩; refine ⟨_, rfl, ?_⟩; refine qM19 (Kd.R_below (tR HO_527001.out) hb) (Kd.R_below (tR HO_532001.out) hb) (Kd.R_below (tR HO_543001.out) hb) (Kd.R_below (tR HO_549001.out) hb) (Kd.R_below (tR HO_555001.out) hb) (Kd.R_below (tR HO_569001.out) hb) (Kd.R_below (tR HO_575001.out) hb) (Kd.R_below (tR HO_581001.out) hb) (Kd.R_below (tR HO_587001.out) hb) (tQ BK526.out hb) (tQ BK531.out hb) (tQ BK542.out hb) (tQ BK548.out hb) (tQ BK554.out hb) (tQ BK568.out hb) (tQ BK574.out hb) (tQ BK580.out hb) (tQ BK586.out hb) (bQT tB hb) ?_; clear HO_527001 HO_532001 HO_543001 HO_549001 HO_555001 HO_569001 HO_575001 HO_581001 HO_587001 BK526 BK531 BK542 BK548 BK554 BK568 BK574 BK580 BK586 HB; intro HO_527001 HO_532001 HO_543001 HO_549001 HO_555001 HO_569001 HO_575001 HO_581001 HO_587001 BK526 BK531 BK542 BK548 BK554 BK568 BK574 BK580 BK586 HB; (try clear hb); (try clear hb2); (try clear hk); (try clear hi)))
    go_ret
    exact ⟨tE, tB⟩
   rw [if_pos c203] at H
   have c203b0 := beq_iff_eq.mpr c203
   have c203b1 := bne_eq_false_iff_eq.mpr c203
   clear c203
   by_cases c204 : t593 = 0
   rotate_left
   ·rw [if_neg c204] at H
    have c204b0 := beq_eq_false_iff_ne.mpr c204
    have c204b1 := bne_iff_ne.mpr c204
    obtain rfl := Option.some.inj H
    have hnb543 := NB526_531.out
    have hnc543 := NB531_526.out
    have hnb544 := NB526_542.out
    have hnc544 := NB542_526.out
    have hnb545 := NB526_548.out
    have hnc545 := NB548_526.out
    have hnb546 := NB526_554.out
    have hnc546 := NB554_526.out
    have hnb547 := NB526_568.out
    have hnc547 := NB568_526.out
    have hnb548 := NB526_574.out
    have hnc548 := NB574_526.out
    have hnb549 := NB526_580.out
    have hnc549 := NB580_526.out
    have hnb550 := NB526_586.out
    have hnc550 := NB586_526.out
    have hcz551_0 : wc.cell? ⟨gb526, 0, none⟩ = some (.int .i64 t522) := (kQC BK526.out 0).trans rfl
    have hcz551_1 : wc.cell? ⟨gb526, 1, none⟩ = some (.slice Ao16 t523.length co16) := (kQC BK526.out 1).trans rfl
    have hfz551_0 := kQF BK526.out 0
    have hfz551_1 := kQF BK526.out 1
    have hnb552 := NB531_542.out
    have hnc552 := NB542_531.out
    have hnb553 := NB531_548.out
    have hnc553 := NB548_531.out
    have hnb554 := NB531_554.out
    have hnc554 := NB554_531.out
    have hnb555 := NB531_568.out
    have hnc555 := NB568_531.out
    have hnb556 := NB531_574.out
    have hnc556 := NB574_531.out
    have hnb557 := NB531_580.out
    have hnc557 := NB580_531.out
    have hnb558 := NB531_586.out
    have hnc558 := NB586_531.out
    have hcz559_0 : wc.cell? ⟨gb531, 0, none⟩ = some (.int .i64 t527) := (kQC BK531.out 0).trans rfl
    have hcz559_1 : wc.cell? ⟨gb531, 1, none⟩ = some (.slice Ao21 t528.length co21) := (kQC BK531.out 1).trans rfl
    have hfz559_0 := kQF BK531.out 0
    have hfz559_1 := kQF BK531.out 1
    go_wp2_with (first | ((with_reducible refine gQc (f := 25) rfl ?_); refine goesL_ (some 185) rfl rfl Try.func25 (by kernel_rfl) rfl #[.agg #[.int .i64 t522, .slice Ao16 t523.length co16], .agg #[.int .i64 t527, .slice Ao21 t528.length co21]] rfl tL ?_; (with_reducible refine (impl_DistanceOf.calls kj99 t522 _ _ t523 t527 _ _ t528 t588 t589 _ ?s1 ?s2 ?s3 ?s4 A197.out).mono ?_); (case s1 => exact tC ((Kd.R_reads' HO_527001.out).2.2)); (case s2 => exact (Kd.R_reads' HO_527001.out).2.1); (case s3 => exact tC ((Kd.R_reads' HO_532001.out).2.2)); (case s4 => exact (Kd.R_reads' HO_532001.out).2.1); rintro e w560 ⟨rfl, hb⟩; refine ⟨_, rfl, ?_⟩; refine qM19 (Kd.R_below (tR HO_527001.out) hb) (Kd.R_below (tR HO_532001.out) hb) (Kd.R_below (tR HO_543001.out) hb) (Kd.R_below (tR HO_549001.out) hb) (Kd.R_below (tR HO_555001.out) hb) (Kd.R_below (tR HO_569001.out) hb) (Kd.R_below (tR HO_575001.out) hb) (Kd.R_below (tR HO_581001.out) hb) (Kd.R_below (tR HO_587001.out) hb) (tQ BK526.out hb) (tQ BK531.out hb) (tQ BK542.out hb) (tQ BK548.out hb) (tQ BK554.out hb) (tQ BK568.out hb) (tQ BK574.out hb) (tQ BK580.out hb) (tQ BK586.out hb) (bQT tB hb) ?_; clear HO_527001 HO_532001 HO_543001 HO_549001 HO_555001 HO_569001 HO_575001 HO_581001 HO_587001 BK526 BK531 BK542 BK548 BK554 BK568 BK574 BK580 BK586 HB; intro HO_527001 HO_532001 HO_543001 HO_549001 HO_555001 HO_569001 HO_575001 HO_581001 HO_587001 BK526 BK531 BK542 BK548 BK554 BK568 BK574 BK580 BK586 HB; (try clear hb); (try clear hb2); (try clear hk); (try clear hi); have hcz561_0 : w560.cell? ⟨gb531, 0, none⟩ = some (.int .i64 t527) := (kQC BK531.out 0).trans rfl; have hcz561_1 : w560.cell? ⟨gb531, 1, none⟩ = some (.slice Ao21 t528.length co21) := (kQC BK531.out 1).trans rfl; have hfz561_0 := kQF BK531.out 0; have hfz561_1 := kQF BK531.out 1; have hnb562 := NB542_548.out; have hnc562 := NB548_542.out; have hnb563 := NB542_554.out; have hnc563 := NB554_542.out; have hnb564 := NB542_568.out; have hnc564 := NB568_542.out; have hnb565 := NB542_574.out; have hnc565 := NB574_542.out; have hnb566 := NB542_580.out; have hnc566 := NB580_542.out; have hnb567 := NB542_586.out; have hnc567 := NB586_542.out; have hcz568_0 : w560.cell? ⟨gb542, 0, none⟩ = some (.int .i64 t538) := (kQC BK542.out 0).trans rfl; have hcz568_1 : w560.cell? ⟨gb542, 1, none⟩ = some (.slice Ao31 t539.length co31) := (kQC BK542.out 1).trans rfl; have hfz568_0 := kQF BK542.out 0; have hfz568_1 := kQF BK542.out 1) | ((with_reducible refine gQc (f := 25) rfl ?_); refine goesL_ (some 191) rfl rfl Try.func25 (by kernel_rfl) rfl #[.agg #[.int .i64 t527, .slice Ao21 t528.length co21], .agg #[.int .i64 t538, .slice Ao31 t539.length co31]] rfl tL ?_; (with_reducible refine (impl_DistanceOf.calls kj99 t527 _ _ t528 t538 _ _ t539 t590 t591 _ ?s1 ?s2 ?s3 ?s4 A198.out).mono ?_); (case s1 => exact tC ((Kd.R_reads' HO_532001.out).2.2)); (case s2 => exact (Kd.R_reads' HO_532001.out).2.1); (case s3 => exact tC ((Kd.R_reads' HO_543001.out).2.2)); (case s4 => exact (Kd.R_reads' HO_543001.out).2.1); rintro e w569 ⟨rfl, hb⟩; refine ⟨_, rfl, ?_⟩; refine qM19 (Kd.R_below (tR HO_527001.out) hb) (Kd.R_below (tR HO_532001.out) hb) (Kd.R_below (tR HO_543001.out) hb) (Kd.R_below (tR HO_549001.out) hb) (Kd.R_below (tR HO_555001.out) hb) (Kd.R_below (tR HO_569001.out) hb) (Kd.R_below (tR HO_575001.out) hb) (Kd.R_below (tR HO_581001.out) hb) (Kd.R_below (tR HO_587001.out) hb) (tQ BK526.out hb) (tQ BK531.out hb) (tQ BK542.out hb) (tQ BK548.out hb) (tQ BK554.out hb) (tQ BK568.out hb) (tQ BK574.out hb) (tQ BK580.out hb) (tQ BK586.out hb) (bQT tB hb) ?_; clear HO_527001 HO_532001 HO_543001 HO_549001 HO_555001 HO_569001 HO_575001 HO_581001 HO_587001 BK526 BK531 BK542 BK548 BK554 BK568 BK574 BK580 BK586 HB; intro HO_527001 HO_532001 HO_543001 HO_549001 HO_555001 HO_569001 HO_575001 HO_581001 HO_587001 BK526 BK531 BK542 BK548 BK554 BK568 BK574 BK580 BK586 HB; (try clear hb); (try clear hb2); (try clear hk); (try clear hi); have hcz570_0 : w569.cell? ⟨gb526, 0, none⟩ = some (.int .i64 t522) := (kQC BK526.out 0).trans rfl; have hcz570_1 : w569.cell? ⟨gb526, 1, none⟩ = some (.slice Ao16 t523.length co16) := (kQC BK526.out 1).trans rfl; have hfz570_0 := kQF BK526.out 0; have hfz570_1 := kQF BK526.out 1; have hcz571_0 : w569.cell? ⟨gb542, 0, none⟩ = some (.int .i64 t538) := (kQC BK542.out 0).trans rfl; have hcz571_1 : w569.cell? ⟨gb542, 1, none⟩ = some (.slice Ao31 t539.length co31) := (kQC BK542.out 1).trans rfl; have hfz571_0 := kQF BK542.out 0; have hfz571_1 := kQF BK542.out 1) | ((with_reducible refine gQc (f := 25) rfl ?_); refine goesL_ (some 197) rfl rfl Try.func25 (by kernel_rfl) rfl #[.agg #[.int .i64 t522, .slice Ao16 t523.length co16], .agg #[.int .i64 t538, .slice Ao31 t539.length co31]] rfl tL ?_; (with_reducible refine (impl_DistanceOf.calls kj99 t522 _ _ t523 t538 _ _ t539 t592 t593 _ ?s1 ?s2 ?s3 ?s4 A199.out).mono ?_); (case s1 => exact tC ((Kd.R_reads' HO_527001.out).2.2)); (case s2 => exact (Kd.R_reads' HO_527001.out).2.1); (case s3 => exact tC ((Kd.R_reads' HO_543001.out).2.2)); (case s4 => exact (Kd.R_reads' HO_543001.out).2.1); rintro e w572 ⟨rfl, hb⟩; refine ⟨_, rfl, ?_⟩; refine qM19 (Kd.R_below (tR HO_527001.out) hb) (Kd.R_below (tR HO_532001.out) hb) (Kd.R_below (tR HO_543001.out) hb) (Kd.R_below (tR HO_549001.out) hb) (Kd.R_below (tR HO_555001.out) hb) (Kd.R_below (tR HO_569001.out) hb) (Kd.R_below (tR HO_575001.out) hb) (Kd.R_below (tR HO_581001.out) hb) (Kd.R_below (tR HO_587001.out) hb) (tQ BK526.out hb) (tQ BK531.out hb) (tQ BK542.out hb) (tQ BK548.out hb) (tQ BK554.out hb) (tQ BK568.out hb) (tQ BK574.out hb) (tQ BK580.out hb) (tQ BK586.out hb) (bQT tB hb) ?_; clear HO_527001 HO_532001 HO_543001 HO_549001 HO_555001 HO_569001 HO_575001 HO_581001 HO_587001 BK526 BK531 BK542 BK548 BK554 BK568 BK574 BK580 BK586 HB; intro HO_527001 HO_532001 HO_543001 HO_549001 HO_555001 HO_569001 HO_575001 HO_581001 HO_587001 BK526 BK531 BK542 BK548 BK554 BK568 BK574 BK580 BK586 HB; (try clear hb); (try clear hb2); (try clear hk); (try clear hi); have hcz573_0 : w572.cell? ⟨gb531, 0, none⟩ = some (.int .i64 t527) := (kQC BK531.out 0).trans rfl; have hcz573_1 : w572.cell? ⟨gb531, 1, none⟩ = some (.slice Ao21 t528.length co21) := (kQC BK531.out 1).trans rfl; have hfz573_0 := kQF BK531.out 0; have hfz573_1 := kQF BK531.out 1; have hcz574_0 : w572.cell? ⟨gb526, 0, none⟩ = some (.int .i64 t522) := (kQC BK526.out 0).trans rfl; have hcz574_1 : w572.cell? ⟨gb526, 1, none⟩ = some (.slice Ao16 t523.length co16) := (kQC BK526.out 1).trans rfl; have hfz574_0 := kQF BK526.out 0; have hfz574_1 := kQF BK526.out 1) | ((with_reducible refine gQc (f := 25) rfl ?_); refine goesL_ (some 203) rfl rfl Try.func25 (by kernel_rfl) rfl #[.agg #[.int .i64 t527, .slice Ao21 t528.length co21], .agg #[.int .i64 t522, .slice Ao16 t523.length co16]] rfl tL ?_; (with_reducible refine (impl_DistanceOf.calls kj99 t527 _ _ t528 t522 _ _ t523 t594 t595 _ ?s1 ?s2 ?s3 ?s4 A200.out).mono ?_); (case s1 => exact tC ((Kd.R_reads' HO_532001.out).2.2)); (case s2 => exact (Kd.R_reads' HO_532001.out).2.1); (case s3 => exact tC ((Kd.R_reads' HO_527001.out).2.2)); (case s4 => exact (Kd.R_reads' HO_527001.out).2.1); rintro e w575 ⟨rfl, hb⟩; refine ⟨_, rfl, ?_⟩; refine qM19 (Kd.R_below (tR HO_527001.out) hb) (Kd.R_below (tR HO_532001.out) hb) (Kd.R_below (tR HO_543001.out) hb) (Kd.R_below (tR HO_549001.out) hb) (Kd.R_below (tR HO_555001.out) hb) (Kd.R_below (tR HO_569001.out) hb) (Kd.R_below (tR HO_575001.out) hb) (Kd.R_below (tR HO_581001.out) hb) (Kd.R_below (tR HO_587001.out) hb) (tQ BK526.out hb) (tQ BK531.out hb) (tQ BK542.out hb) (tQ BK548.out hb) (tQ BK554.out hb) (tQ BK568.out hb) (tQ BK574.out hb) (tQ BK580.out hb) (tQ BK586.out hb) (bQT tB hb) ?_; clear HO_527001 HO_532001 HO_543001 HO_549001 HO_555001 HO_569001 HO_575001 HO_581001 HO_587001 BK526 BK531 BK542 BK548 BK554 BK568 BK574 BK580 BK586 HB; intro HO_527001 HO_532001 HO_543001 HO_549001 HO_555001 HO_569001 HO_575001 HO_581001 HO_587001 BK526 BK531 BK542 BK548 BK554 BK568 BK574 BK580 BK586 HB; (try clear hb); (try clear hb2); (try clear hk); (try clear hi); have hnb576 := NB568_548.out; have hnc576 := NB548_568.out; have hnb577 := NB568_554.out; have hnc577 := NB554_568.out; have hnb578 := NB568_574.out; have hnc578 := NB574_568.out; have hnb579 := NB568_580.out; have hnc579 := NB580_568.out; have hnb580 := NB568_586.out; have hnc580 := NB586_568.out; have hcz581_0 : w575.cell? ⟨gb568, 0, none⟩ = some (.int .i64 t563) := (kQC BK568.out 0).trans rfl; have hcz581_1 : w575.cell? ⟨gb568, 1, none⟩ = some (.slice Ao129 t564.length co129) := (kQC BK568.out 1).trans rfl; have hfz581_0 := kQF BK568.out 0; have hfz581_1 := kQF BK568.out 1; have hnb582 := NB574_548.out; have hnc582 := NB548_574.out; have hnb583 := NB574_554.out; have hnc583 := NB554_574.out; have hnb584 := NB574_580.out; have hnc584 := NB580_574.out; have hnb585 := NB574_586.out; have hnc585 := NB586_574.out; have hcz586_0 : w575.cell? ⟨gb574, 0, none⟩ = some (.int .i64 t569) := (kQC BK574.out 0).trans rfl; have hcz586_1 : w575.cell? ⟨gb574, 1, none⟩ = some (.slice Ao140 t570.length co140) := (kQC BK574.out 1).trans rfl; have hfz586_0 := kQF BK574.out 0; have hfz586_1 := kQF BK574.out 1) | ((with_reducible refine gQc (f := 25) rfl ?_); refine goesL_ (some 209) rfl rfl Try.func25 (by kernel_rfl) rfl #[.agg #[.int .i64 t563, .slice Ao129 t564.length co129], .agg #[.int .i64 t569, .slice Ao140 t570.length co140]] rfl tL ?_; (with_reducible refine (impl_DistanceOf.calls kj99 t563 _ _ t564 t569 _ _ t570 t596 t597 _ ?s1 ?s2 ?s3 ?s4 A201.out).mono ?_); (case s1 => exact tC ((Kd.R_reads' HO_569001.out).2.2)); (case s2 => exact (Kd.R_reads' HO_569001.out).2.1); (case s3 => exact tC ((Kd.R_reads' HO_575001.out).2.2)); (case s4 => exact (Kd.R_reads' HO_575001.out).2.1); rintro e w587 ⟨rfl, hb⟩; refine ⟨_, rfl, ?_⟩; refine qM19 (Kd.R_below (tR HO_527001.out) hb) (Kd.R_below (tR HO_532001.out) hb) (Kd.R_below (tR HO_543001.out) hb) (Kd.R_below (tR HO_549001.out) hb) (Kd.R_below (tR HO_555001.out) hb) (Kd.R_below (tR HO_569001.out) hb) (Kd.R_below (tR HO_575001.out) hb) (Kd.R_below (tR HO_581001.out) hb) (Kd.R_below (tR HO_587001.out) hb) (tQ BK526.out hb) (tQ BK531.out hb) (tQ BK542.out hb) (tQ BK548.out hb) (tQ BK554.out hb) (tQ BK568.out hb) (tQ BK574.out hb) (tQ BK580.out hb) (tQ BK586.out hb) (bQT tB hb) ?_; clear HO_527001 HO_532001 HO_543001 HO_549001 HO_555001 HO_569001 HO_575001 HO_581001 HO_587001 BK526 BK531 BK542 BK548 BK554 BK568 BK574 BK580 BK586 HB; intro HO_527001 HO_532001 HO_543001 HO_549001 HO_555001 HO_569001 HO_575001 HO_581001 HO_587001 BK526 BK531 BK542 BK548 BK554 BK568 BK574 BK580 BK586 HB; (try clear hb); (try clear hb2); (try clear hk); (try clear hi)))
    go_ret
    exact ⟨tE, tB⟩
   rename_i zg_0_0 zg_0_1 zg_0_2 zg_0_3 zg_0_4 zg_0_5 zg_0_6 zg_0_7 zg_0_8 zg_0_9 zg_0_10 zg_0_11 zg_0_12 zg_0_13 zg_0_14 zg_0_15 zg_0_16 zg_0_17 zg_0_18 zg_0_19 zg_0_20
   revert k A0 c0 l0 A1 c1 l1 r w hu27 HR0 HC0 HR1 HC1 za_1_0 A3 za_1_1 t521 A5 za_1_2 t522 t523 A6 za_1_3 t527 t528 A7 y532 Ny532 LMc8 y535 za_1_4 Ny535 t538 t539 A9 za_1_5 t543 t544 t547 A10 zc_1_0 t549 t550 t553 A11 za_1_6 za_1_7 za_1_8 nd w13 gb526 w14 GW526 GE526 Ao16 co16 w17 gb531 w18 GW531 GE531 NB526_531 NB531_526 hnb19 hnc19 Ao21 co21 v533 w22 w24 Ao25 co25 w26 gb542 w27 GW542 GE542 NB526_542 NB542_526 NB531_542 NB542_531 hnb28 hnc28 hnb29 hnc29 Ao31 co31 w34 gb548 w35 GW548 GE548 NB526_548 NB548_526 NB531_548 NB548_531 NB542_548 NB548_542 hnb36 hnc36 hnb37 hnc37 hnb38 hnc38 Ao40 co40 w43 gb554 w44 HO537 zc_1_1 zc_1_2 zc_1_3 zc_1_4 zc_1_5 zc_1_6 GW554 GE554 NB526_554 NB554_526 NB531_554 NB554_531 NB542_554 NB554_542 NB548_554 NB554_548 hnb45 hnc45 hnb46 hnc46 hnb47 hnc47 hnb48 hnc48 Ao50 co50 HO525 HO530 HO541 HO546 HO552 zc_1_7 zc_1_8 zc_1_9 zc_1_10 zc_1_11 zc_1_12 zc_1_13 zc_1_14 zc_1_15 zc_1_16 zc_1_17 zc_1_18 zc_1_19 zc_1_20 zc_1_21 zc_1_22 zc_1_23 zc_1_24 zc_1_25 zc_1_26 zc_1_27 zc_1_28 zc_1_29 zc_1_30 zc_1_31 zc_1_32 zc_1_33 zc_1_34 zc_1_35 zc_1_36 zc_1_37 zc_1_38 zc_1_39 zc_1_40 zc_1_41 zc_1_42 zc_1_43 zc_1_44 zc_1_45 zc_1_46 zc_1_47 zc_1_48 zc_1_49 zc_1_50 zc_1_51 zc_1_52 zc_1_53 zc_1_54 zc_1_55 zc_1_56 zc_1_57 zc_1_58 zc_1_59 zc_1_60 zc_1_61 zc_1_62 zc_1_63 zc_1_64 zc_1_65 zc_1_66 zc_1_67 zc_1_68 zc_1_69 zc_1_70 zc_1_71 zc_1_72 zc_1_73 zc_1_74 zc_1_75 zc_1_76 zc_1_77 zc_1_78 zc_1_79 zc_1_80 zc_1_81 zc_1_82 zc_1_83 zc_1_84 zc_1_85 zc_1_86 zc_1_87 zc_1_88 zc_1_89 zc_1_90 zc_1_91 zc_1_92 zc_1_93 zc_1_94 zc_1_95 zc_1_96 zc_1_97 zc_1_98 zc_1_99 zc_1_100 zc_1_101 zc_1_102 zc_1_103 zc_1_104 zc_1_105 zc_1_106 zc_1_107 zc_1_108 zc_1_109 zc_1_110 zc_1_111 zc_1_112 zc_1_113 zc_1_114 zc_1_115 zc_1_116 zc_1_117 zc_1_118 zc_1_119 zc_1_120 zc_1_121 zc_1_122 zc_1_123 zc_1_124 zc_1_125 zc_1_126 zc_1_127 zc_1_128 zc_1_129 zc_1_130 zc_1_131 zc_1_132 zc_1_133 zc_1_134 zc_1_135 zc_1_136 zc_1_137 zc_1_138 zc_1_139 zc_1_140 zc_1_141 zc_1_142 zc_1_143 zc_1_144 zc_1_145 zc_1_146 zc_1_147 zc_1_148 zc_1_149 zc_1_150 zc_1_151 zc_1_152 zc_1_153 zc_1_154 zc_1_155 zc_1_156 zc_1_157 zc_1_158 zc_1_159 zc_1_160 zc_1_161 zc_1_162 zc_1_163 zc_1_164 zc_1_165 zc_1_166 zc_1_167 zc_1_168 zc_1_169 zc_1_170 zc_1_171 zc_1_172 zc_1_173 zc_1_174 zc_1_175 zc_1_176 zc_1_177 zc_1_178 zc_1_179 zc_1_180 zc_1_181 zc_1_182 zc_1_183 zc_1_184 zc_1_185 zc_1_186 zc_1_187 zc_1_188 zc_1_189 zc_1_190 zc_1_191 zc_1_192 zc_1_193 zc_1_194 zc_1_195 zc_1_196 zc_1_197 zc_1_198 zc_1_199 zc_1_200 zc_1_201 zc_1_202 zc_1_203 zc_1_204 zc_1_205 zc_1_206 zc_1_207 zc_1_208 zc_1_209 zc_1_210 zc_1_211 zc_1_212 zc_1_213 zc_1_214 zc_1_215 zc_1_216 zc_1_217 zc_1_218 zc_1_219 zc_1_220 zc_1_221 zc_1_222 zc_1_223 zc_1_224 zc_1_225 zc_1_226 zc_1_227 zc_1_228 zc_1_229 zc_1_230 zc_1_231 zc_1_232 zc_1_233 zc_1_234 zc_1_235 kj11 HJ11 zc_1_236 t557 t558 A93 zc_1_237 t559 t560 A94 zc_1_238 t561 t562 A95 zc_1_239 t563 t564 t567 A96 zc_1_240 t569 t570 t573 A97 zc_1_241 t575 t576 t579 A98 zg_0_0 t581 t582 t585 A99 hnb101 hnc101 hnb102 hnc102 hnb103 hnc103 hnb104 hnc104 hnb106 hnc106 hnb107 hnc107 hnb108 hnc108 w110 hnb112 hnc112 hnb113 hnc113 w115 hnb116 hnc116 w119 w121 gb568 w122 GW568 GE568 NB526_568 NB568_526 NB531_568 NB568_531 NB542_568 NB568_542 NB548_568 NB568_548 NB554_568 NB568_554 hnb123 hnc123 hnb124 hnc124 hnb125 hnc125 hnb126 hnc126 hnb127 hnc127 Ao129 co129 w131 gb574 w132 GW574 GE574 NB526_574 NB574_526 NB531_574 NB574_531 NB542_574 NB574_542 NB548_574 NB574_548 NB554_574 NB574_554 NB568_574 NB574_568 hnb133 hnc133 hnb134 hnc134 hnb135 hnc135 hnb136 hnc136 hnb137 hnc137 hnb138 hnc138 Ao140 co140 w142 gb580 w143 GW580 GE580 NB526_580 NB580_526 NB531_580 NB580_531 NB542_580 NB580_542 NB548_580 NB580_548 NB554_580 NB580_554 NB568_580 NB580_568 NB574_580 NB580_574 hnb144 hnc144 hnb145 hnc145 hnb146 hnc146 hnb147 hnc147 hnb148 hnc148 hnb149 hnc149 hnb150 hnc150 Ao152 co152 w155 gb586 w156 zg_0_1 zg_0_2 zg_0_3 zg_0_4 zg_0_5 zg_0_6 zg_0_7 zg_0_8 zg_0_9 zg_0_10 GW586 GE586 NB526_586 NB586_526 NB531_586 NB586_531 NB542_586 NB586_542 NB548_586 NB586_548 NB554_586 NB586_554 NB568_586 NB586_568 NB574_586 NB586_574 NB580_586 NB586_580 hnb157 hnc157 hnb158 hnc158 hnb159 hnc159 hnb160 hnc160 hnb161 hnc161 hnb162 hnc162 hnb163 hnc163 hnb164 hnc164 Ao166 co166 zg_0_11 zg_0_12 zg_0_13 zg_0_14 zg_0_15 HO566 HO572 HO578 HO584 zc_1_242 zc_1_243 zc_1_244 zc_1_245 wc u37 u38 u39 u40 u41 u42 u43 u44 u45 u46 u47 u48 u49 u50 u51 u52 u53 u54 u55 u56 u57 u58 u59 u60 u61 u62 u63 u64 u65 u66 u67 u68 u69 u70 u71 u72 u73 u74 u75 u76 u77 u78 u79 u80 u81 u82 u83 u84 u85 u86 u87 u88 u89 u90 u91 u92 u93 u94 u95 u96 u97 u98 u99 u100 u101 u102 u103 u104 u105 u106 u107 u108 u109 u110 u111 u112 u113 u114 u115 u116 u117 u118 u119 u120 u121 u122 u123 u124 u125 u126 u127 u128 u129 u130 u131 u132 u133 u134 u135 u136 u137 u138 u139 u140 u141 u142 u143 u144 u145 u146 u147 u148 u149 u150 u151 u152 u153 u154 u155 u156 u157 u158 u159 u160 u161 u162 u163 u164 u165 u166 u167 u168 u169 u170 u171 u172 u173 u174 u175 u176 u177 u178 u179 u180 u182 u183 u184 u185 u186 u187 u188 u189 u190 u191 u192 u193 u194 u195 u196 u197 u198 u199 u200 u201 u202 u203 u204 u205 u206 u207 u208 u209 u210 u211 u212 u213 u214 u215 u216 u217 u218 u219 u220 u221 u222 u223 u224 u225 u226 u227 u228 u229 u230 u231 u232 u233 u234 u235 u236 u237 u238 u239 u240 u241 u242 u243 u244 u245 u246 u247 u248 u249 u250 u251 u252 u253 u254 u255 u256 u257 u258 u259 u260 u261 u262 u263 u264 u265 HO_527001 HO_532001 HO_543001 HO_549001 HO_555001 HO_569001 HO_575001 HO_581001 HO_587001 BK526 BK531 BK542 BK548 BK554 BK568 BK574 BK580 BK586 HB kj99 HJ99 zg_0_16 t588 t589 A197 zg_0_17 t590 t591 A198 zg_0_18 t592 t593 A199 zg_0_19 t594 t595 A200 zg_0_20 t596 t597 A201 H c202b0 c202b1 c203b0 c203b1 c204
   exact hG0_.out
end Go.Proofs.Ythjfilmdobkmlaa.P
