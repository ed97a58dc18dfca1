/- Functions of the program and what they tell, as the printing program wrote it. -/
import Derived.Test.YtljcjoodnkdljaaPx0
import Derived.Test.YtljcjoodnkdljaaPx5
import Derived.Test.YtljcjoodnkdljaaPx24
import Derived.Test.YtljcjoodnkdljaaPx25
import Derived.Test.YtljcjoodnkdljaaPx26
import Derived.Test.YtljcjoodnkdljaaPx27
import Derived.Test.YtljcjoodnkdljaaPx28
import Derived.Test.YtljcjoodnkdljaaPx42b
namespace Go.Proofs.Ytljcjoodnkdljaa.P
open Go.Shelf Go.RowKit Go.Proofs.YtljcjoodnkdljaaW.PrintWords Go.Proofs.YtljcjoodnkdljaaW.PrintLast Go.Proofs.YtljcjoodnkdljaaW.PrintMore
attribute [local go_sem] max2_int min2_int max_two min_two max_three min_three max_four min_four
set_option linter.unusedVariables false
set_option linter.unusedSimpArgs false
set_option maxHeartbeats 8000000 in
set_option maxRecDepth 100000 in
noncomputable def laws_FnPowers.G2 : { G_ : Prop // laws_FnPowers.W G_ → laws_FnPowers.G1.1 } := by
 constructor
 intro hG_
 intro k A0 c0 l0 A1 c1 l1 r w hu39 HR0 HC0 HR1 HC1 A3 t537 t538 A5 ji6 hji6 ji8 hji8 hji8_ hji8z hji8u hji8v hji8y hji8x t540 A9 t541 A10 t542 A11 t543 A12 t544 t545 A13 t546 t547 A14 t548 t549 A15 z0_0 z0_1 z0_2 w17 gb539 w18 GW539 GE539 w20 w22 z0_3 nd w24 w26 w28 z1_4 z1_5 z1_6 z1_7 z1_8 z1_9 z1_10 z1_11 z1_12 z1_13 z1_14 z1_15 z1_16 z1_17 z1_18 z1_19 z1_20 z1_21 z1_22 z1_23 z1_24 z1_25 z1_26 z1_27 z1_28 z1_29 z1_30 z1_31 z1_32 z1_33 z1_34 z1_35 z1_36 z1_37 z1_38 z1_39 z1_40 z1_41 z1_42 z1_43 z1_44 z1_45 z1_46 z1_47 z1_48 z1_49 z1_50 z1_51 z1_52 z1_53 z1_54 z1_55 z1_56 z1_57 z1_58 z1_59 z1_60 z1_61 z1_62 z1_63 z1_64 z1_65 z1_66 z1_67 z1_68 z1_69 z1_70 z1_71 z1_72 z1_73 z1_74 z1_75 z1_76 z1_77 z1_78 z1_79 z1_80 z1_81 z1_82 z1_83 z1_84 z1_85 z1_86 z1_87 z1_88 z1_89 z1_90 z1_91 z1_92 z1_93 z1_94 z1_95 z1_96 z1_97 z1_98 z1_99 z1_100 z1_101 z1_102 z1_103 z1_104 z1_105 z1_106 z1_107 z1_108 z1_109 z1_110 z1_111 z1_112 z1_113 z1_114 z1_115 z1_116 z1_117 z1_118 z1_119 z1_120 z1_121 z1_122 z1_123 z1_124 z1_125 z1_126 z1_127 z1_128 z1_129 z1_130 z1_131 z1_132 z1_133 z1_134 z1_135 z1_136 z1_137 z1_138 z1_139 z1_140 z1_141 z1_142 z1_143 z1_144 z1_145 z1_146 z1_147 z1_148 z1_149 z1_150 z1_151 z1_152 z1_153 z1_154 z1_155 z1_156 z1_157 z1_158 z1_159 z1_160 z1_161 z1_162 z1_163 z1_164 z1_165 z1_166 z1_167 z1_168 z1_169 z1_170 z1_171 z1_172 z1_173 z1_174 z1_175 z1_176 z1_177 z1_178 z1_179 z1_180 z1_181 z1_182 z1_183 z1_184 z1_185 z1_186 z1_187 z1_188 z1_189 z1_190 z1_191 z1_192 z1_193 z1_194 z1_195 z1_196 z1_197 z1_198 z1_199 z1_200 z1_201 z1_202 z1_203 z1_204 z1_205 z1_206 z1_207 z1_208 z1_209 z1_210 z1_211 z1_212 z1_213 z1_214 z1_215 z1_216 z1_217 z1_218 z1_219 z1_220 z1_221 z1_222 z1_223 z1_224 z1_225 z1_226 z1_227 z1_228 z1_229 z1_230 z1_231 z1_232 z1_233 z1_234 z1_235 z1_236 z1_237 z1_238 z1_239 z1_240 z1_241 z1_242 z1_243 z1_244 z1_245 z1_246 z1_247 z1_248 z1_249 z1_250 z1_251 z1_252 z1_253 z1_254 z1_255 z1_256 z1_257 z1_258 z1_259 z1_260 z1_261 z1_262 z1_263 z1_264 z1_265 z1_266 z1_267 z1_268 z1_269 z1_270 z1_271 z1_272 z1_273 z1_274 z1_275 z1_276 kj15 HJ15 t550 t551 A36 t552 t553 A37 t554 t555 A38 t556 t557 A39 HC40 hcz41_0 hcz41_1 hfz41_0 hfz41_1 w42 hcz43_0 hcz43_1 hfz43_0 hfz43_1 w44 hcz45_0 hcz45_1 hfz45_0 hfz45_1 w46 hcz47_0 hcz47_1 hfz47_0 hfz47_1 w48 BK539 HB z1_277 z1_278 z1_279 z1_280 wc u41 u42 u43 u44 u45 u46 u47 u48 u49 u50 u51 u52 u53 u54 u55 u56 u57 u58 u59 u60 u61 u62 u63 u64 u65 u66 u67 u68 u69 u70 u71 u72 u73 u74 u75 u76 u77 u78 u79 u80 u81 u82 u83 u84 u85 u86 u87 u88 u89 u90 u91 u92 u93 u94 u95 u96 u97 u98 u99 u100 u101 u102 u103 u104 u105 u106 u107 u108 u109 u110 u111 u112 u113 u114 u115 u116 u117 u118 u119 u120 u121 u122 u123 u124 u125 u126 u127 u128 u129 u130 u131 u132 u133 u134 u135 u136 u137 u138 u139 u140 u141 u142 u143 u144 u145 u146 u147 u148 u149 u150 u151 u152 u153 u154 u155 u156 u157 u158 u159 u160 u161 u162 u163 u164 u165 u166 u167 u168 u169 u170 u171 u172 u173 u174 u175 u176 u177 u178 u179 u180 u181 u182 u183 u184 u185 u186 u187 u188 u189 u190 u191 u192 u193 u194 u195 u196 u197 u198 u199 u200 u201 u202 u203 u204 u205 u206 u207 u208 u209 u210 u211 u212 u213 u214 u215 u216 u217 u218 u219 u220 u221 u222 u223 u224 u225 u226 u227 u228 u229 u230 u231 u232 u233 u234 u235 u236 u237 u238 u239 u240 u241 u242 u243 u244 u245 u246 u247 u248 u249 u250 u251 u252 u253 u254 u255 u256 u257 u258 u259 u260 u261 u262 u263 u264 u265 u266 u267 u268 u269 u270 u271 u272 u273 u274 u275 u276 u277 u278 u279 u280 u281 u282 u283 u284 u285 u286 u287 u288 u289 u290 u291 u292 u293 u294 u295 u296 u297 u298 u299 u300 u301 u302 u303 u304 u305 u306 u307 u308 u309 u310 u311 hcut
 clear HC40
 try clear c1
 try clear c2
 try clear p2
 try clear c3
 try clear c4
 try clear c5
 try clear p6
 try clear c7
 try clear c7b0
 try clear c7b1
 try clear c8
 try clear c20
 try clear c21
 try clear c22
 try clear c23
 try clear c24
 try clear c29
 try clear c29b0
 try clear c29b1
 try clear c30
 try clear c30b0
 try clear c30b1
 try clear c31
 try clear c31b0
 try clear c31b1
 try clear c32
 try clear c32b0
 try clear c33
 try clear c33b0
 try clear c34
 try clear c34b0
 try clear c35
 try clear c49
 try clear c49b0
 try clear c49b1
 try clear c50
 try clear c50b0
 try clear c50b1
 try clear c51
 try clear c51b0
 try clear c51b1
 try clear c52
 try clear c52b0
 try clear c52b1
 try clear c53
 try clear c53b0
 try clear c53b1
 try clear c54
 try clear c54b0
 try clear c55
 try clear c55b0
 try clear hcz19_0
 try clear hcz19_1
 try clear hcz21_0
 try clear hcz21_1
 try clear hcz23_0
 try clear hcz23_1
 try clear hcz25_0
 try clear hcz25_1
 try clear hcz27_0
 try clear hcz27_1
 try clear hcz41_0
 try clear hcz41_1
 try clear hcz43_0
 try clear hcz43_1
 try clear hcz45_0
 try clear hcz45_1
 try clear hcz47_0
 try clear hcz47_1
 try clear hfz19_0
 try clear hfz19_1
 try clear hfz21_0
 try clear hfz21_1
 try clear hfz23_0
 try clear hfz23_1
 try clear hfz25_0
 try clear hfz25_1
 try clear hfz27_0
 try clear hfz27_1
 try clear hfz41_0
 try clear hfz41_1
 try clear hfz43_0
 try clear hfz43_1
 try clear hfz45_0
 try clear hfz45_1
 try clear hfz47_0
 try clear hfz47_1
 try clear p2
 try clear p6
 obtain ⟨kq, x175_39, rfl, HA, HJ39, BK539, HB⟩ := hcut
 cases kq with
 | zero => exact absurd HA.out (by simp [laws_FnPowers.j1])
 | succ kj39 =>
  have H := HA.out
  clear HA
  simp only [laws_FnPowers.j1] at H
  by_cases c56 : x175_39 = true
  ·subst c56
   have H1 : (some false) = some r := by rw [if_pos rfl] at H; exact H
   clear H
   have H := H1
   clear H1
   obtain rfl := Option.some.inj H
   go_wp2
   go_ret
   exact ⟨by first | rfl | (simp [errW_none, errW_some] <;> rfl) | (simp only [← hji6, ← hji8]; first | rfl | (simp [errW_none, errW_some] <;> rfl)) | (simp [*, errW_none, errW_some] <;> rfl), by repeat (first | (with_reducible first | exact HB.out | apply bQA | apply bQN | apply bQ1 | refine bQS ?_ GE539.out) | exact HB.out)⟩
  ·replace c56 := Bool.eq_false_iff.mpr c56
   subst c56
   have H1 : ((impl_RootTimes.f kj39 t537 t538 t552 t543).bind fun bt558 => ((impl_SquareTimes.f kj39 t537 t538 t540 t537).bind fun bt560 => ((impl_FirstPrimitive.f kj39 t537 t538).bind fun bt562 => (if bt558.2 = 0 then (if bt560.2 = 0 then (if bt562.2 = 0 then (if bt558.1 = t540 then (if bt560.1 = t540 then (if bt562.1 < 1 then (laws_FnPowers.j2 kj39 ji8 t540 bt562.1 true t537 t538) else (laws_FnPowers.j2 kj39 ji8 t540 bt562.1 (decide (bt562.1 ≥ ji8)) t537 t538)) else (laws_FnPowers.j2 kj39 ji8 t540 bt562.1 true t537 t538)) else (laws_FnPowers.j2 kj39 ji8 t540 bt562.1 true t537 t538)) else (laws_FnPowers.j2 kj39 ji8 t540 bt562.1 true t537 t538)) else (laws_FnPowers.j2 kj39 ji8 t540 bt562.1 true t537 t538)) else (laws_FnPowers.j2 kj39 ji8 t540 bt562.1 true t537 t538))))) = some r := by rw [if_neg (show ¬ (false = true) by decide)] at H; exact H
   clear H
   have H := H1
   clear H1
   replace H := Option.bind_eq_some_iff.mp H
   obtain ⟨⟨t558, t559⟩, A570, H⟩ := H
   replace H : ((impl_SquareTimes.f kj39 t537 t538 t540 t537).bind fun bt560 => ((impl_FirstPrimitive.f kj39 t537 t538).bind fun bt562 => (if t559 = 0 then (if bt560.2 = 0 then (if bt562.2 = 0 then (if t558 = t540 then (if bt560.1 = t540 then (if bt562.1 < 1 then (laws_FnPowers.j2 kj39 ji8 t540 bt562.1 true t537 t538) else (laws_FnPowers.j2 kj39 ji8 t540 bt562.1 (decide (bt562.1 ≥ ji8)) t537 t538)) else (laws_FnPowers.j2 kj39 ji8 t540 bt562.1 true t537 t538)) else (laws_FnPowers.j2 kj39 ji8 t540 bt562.1 true t537 t538)) else (laws_FnPowers.j2 kj39 ji8 t540 bt562.1 true t537 t538)) else (laws_FnPowers.j2 kj39 ji8 t540 bt562.1 true t537 t538)) else (laws_FnPowers.j2 kj39 ji8 t540 bt562.1 true t537 t538)))) = some r := H
   have A57 := Aq.mk A570
   clear A570
   replace H := Option.bind_eq_some_iff.mp H
   obtain ⟨⟨t560, t561⟩, A580, H⟩ := H
   replace H : ((impl_FirstPrimitive.f kj39 t537 t538).bind fun bt562 => (if t559 = 0 then (if t561 = 0 then (if bt562.2 = 0 then (if t558 = t540 then (if t560 = t540 then (if bt562.1 < 1 then (laws_FnPowers.j2 kj39 ji8 t540 bt562.1 true t537 t538) else (laws_FnPowers.j2 kj39 ji8 t540 bt562.1 (decide (bt562.1 ≥ ji8)) t537 t538)) else (laws_FnPowers.j2 kj39 ji8 t540 bt562.1 true t537 t538)) else (laws_FnPowers.j2 kj39 ji8 t540 bt562.1 true t537 t538)) else (laws_FnPowers.j2 kj39 ji8 t540 bt562.1 true t537 t538)) else (laws_FnPowers.j2 kj39 ji8 t540 bt562.1 true t537 t538)) else (laws_FnPowers.j2 kj39 ji8 t540 bt562.1 true t537 t538))) = some r := H
   have A58 := Aq.mk A580
   clear A580
   replace H := Option.bind_eq_some_iff.mp H
   obtain ⟨⟨t562, t563⟩, A590, H⟩ := H
   replace H : (if t559 = 0 then (if t561 = 0 then (if t563 = 0 then (if t558 = t540 then (if t560 = t540 then (if t562 < 1 then (laws_FnPowers.j2 kj39 ji8 t540 t562 true t537 t538) else (laws_FnPowers.j2 kj39 ji8 t540 t562 (decide (t562 ≥ ji8)) t537 t538)) else (laws_FnPowers.j2 kj39 ji8 t540 t562 true t537 t538)) else (laws_FnPowers.j2 kj39 ji8 t540 t562 true t537 t538)) else (laws_FnPowers.j2 kj39 ji8 t540 t562 true t537 t538)) else (laws_FnPowers.j2 kj39 ji8 t540 t562 true t537 t538)) else (laws_FnPowers.j2 kj39 ji8 t540 t562 true t537 t538)) = some r := H
   have A59 := Aq.mk A590
   clear A590
   have HC60 := Aq.mk H
   clear H
   have hcz61_0 : wc.cell? ⟨gb539, 0, none⟩ = some (.int .i64 t537) := (kQC BK539.out 0).trans rfl
   have hcz61_1 : wc.cell? ⟨gb539, 1, none⟩ = some (.int .i64 t538) := (kQC BK539.out 1).trans rfl
   have hfz61_0 := kQF BK539.out 0
   have hfz61_1 := kQF BK539.out 1
   go_upto_region 23 with (first | ((with_reducible refine gQc (f := 25) rfl ?_); refine goesL_ (some 180) rfl rfl Try.func25 (by kernel_rfl) rfl #[.agg #[.int .i64 t537, .int .i64 t538], .int .i64 t552, .int .i64 t543] rfl (by (try simp only [List.map_toArray, List.map_cons, List.map_nil]); first | done | rfl | (simp only [List.length_drop, List.length_take]; rfl)) ?_; (with_reducible refine (impl_RootTimes.calls kj39 t537 t538 t552 t543 t558 t559 _ A57.out).mono ?_); rintro e w62 ⟨rfl, hb⟩; refine ⟨_, rfl, ?_⟩; have n0_ := Aq.mk (kQB (g := gb539) (o := .cells #[.int .i64 t537, .int .i64 t538] 39 (0, 0)) (by (with_reducible repeat (first | refine kQN ?_ _ | refine kQD ?_ | refine kQA ?_ _)); exact BK539.out) hb); have n1_ := Aq.mk (bQT (by repeat (first | (with_reducible first | exact HB.out | apply bQA | apply bQN | apply bQ1 | refine bQS ?_ GE539.out) | exact HB.out)) hb); clear BK539; clear HB; have BK539 := n0_; have HB := n1_; clear n0_ n1_; (try clear hb); (try clear hb2); (try clear hk); (try clear hi); have hcz63_0 : w62.cell? ⟨gb539, 0, none⟩ = some (.int .i64 t537) := (kQC BK539.out 0).trans rfl; have hcz63_1 : w62.cell? ⟨gb539, 1, none⟩ = some (.int .i64 t538) := (kQC BK539.out 1).trans rfl; have hfz63_0 := kQF BK539.out 0; have hfz63_1 := kQF BK539.out 1) | ((with_reducible refine gQc (f := 24) rfl ?_); refine goesL_ (some 188) rfl rfl Try.func24 (by kernel_rfl) rfl #[.agg #[.int .i64 t537, .int .i64 t538], .int .i64 t540, .int .i64 t537] rfl (by (try simp only [List.map_toArray, List.map_cons, List.map_nil]); first | done | rfl | (simp only [List.length_drop, List.length_take]; rfl)) ?_; (with_reducible refine (impl_SquareTimes.calls kj39 t537 t538 t540 t537 t560 t561 _ A58.out).mono ?_); rintro e w64 ⟨rfl, hb⟩; refine ⟨_, rfl, ?_⟩; have n0_ := Aq.mk (kQB (g := gb539) (o := .cells #[.int .i64 t537, .int .i64 t538] 39 (0, 0)) (by (with_reducible repeat (first | refine kQN ?_ _ | refine kQD ?_ | refine kQA ?_ _)); exact BK539.out) hb); have n1_ := Aq.mk (bQT (by repeat (first | (with_reducible first | exact HB.out | apply bQA | apply bQN | apply bQ1 | refine bQS ?_ GE539.out) | exact HB.out)) hb); clear BK539; clear HB; have BK539 := n0_; have HB := n1_; clear n0_ n1_; (try clear hb); (try clear hb2); (try clear hk); (try clear hi); have hcz65_0 : w64.cell? ⟨gb539, 0, none⟩ = some (.int .i64 t537) := (kQC BK539.out 0).trans rfl; have hcz65_1 : w64.cell? ⟨gb539, 1, none⟩ = some (.int .i64 t538) := (kQC BK539.out 1).trans rfl; have hfz65_0 := kQF BK539.out 0; have hfz65_1 := kQF BK539.out 1) | ((with_reducible refine gQc (f := 26) rfl ?_); refine goesL_ (some 193) rfl rfl Try.func26 (by kernel_rfl) rfl #[.agg #[.int .i64 t537, .int .i64 t538]] rfl (by (try simp only [List.map_toArray, List.map_cons, List.map_nil]); first | done | rfl | (simp only [List.length_drop, List.length_take]; rfl)) ?_; (with_reducible refine (impl_FirstPrimitive.calls kj39 t537 t538 t562 t563 _ A59.out).mono ?_); rintro e w66 ⟨rfl, hb⟩; refine ⟨_, rfl, ?_⟩; have n0_ := Aq.mk (kQB (g := gb539) (o := .cells #[.int .i64 t537, .int .i64 t538] 39 (0, 0)) (by (with_reducible repeat (first | refine kQN ?_ _ | refine kQD ?_ | refine kQA ?_ _)); exact BK539.out) hb); have n1_ := Aq.mk (bQT (by repeat (first | (with_reducible first | exact HB.out | apply bQA | apply bQN | apply bQ1 | refine bQS ?_ GE539.out) | exact HB.out)) hb); clear BK539; clear HB; have BK539 := n0_; have HB := n1_; clear n0_ n1_; (try clear hb); (try clear hb2); (try clear hk); (try clear hi)))
   (try simp only [Act.put, qSa, qSb, qSc])
   go_cut [224] (fun v224 wc => ∃ (kq : Nat) (x224_59 : Bool), v224 = .bool x224_59 ∧ Aq (laws_FnPowers.j2 kq ji8 t540 t562 x224_59 t537 t538 = some r) ∧ Aq (kq ≤ kj39) ∧ Aq (wc.heap[gb539]? = some (.cells #[.int .i64 t537, .int .i64 t538] 39 (0, 0))) ∧ Aq (Below w.heap.size w wc))
   case first =>
    have H := HC60.out
    clear HC60
    by_cases c67 : t559 = 0
    ·rw [if_pos c67] at H
     have c67b0 : (t559 == 0) = true := beq_iff_eq.mpr c67
     have c67b1 : (t559 != 0) = false := bne_eq_false_iff_eq.mpr c67
     clear c67
     (first | rw [c67b0] | (simp only [i64_w, i32_w]; rw [c67b0]) | skip)
     by_cases c68 : t561 = 0
     ·rw [if_pos c68] at H
      have c68b0 : (t561 == 0) = true := beq_iff_eq.mpr c68
      have c68b1 : (t561 != 0) = false := bne_eq_false_iff_eq.mpr c68
      clear c68
      by_cases c69 : t563 = 0
      ·rw [if_pos c69] at H
       have c69b0 : (t563 == 0) = true := beq_iff_eq.mpr c69
       have c69b1 : (t563 != 0) = false := bne_eq_false_iff_eq.mpr c69
       clear c69
       by_cases c70 : t558 = t540
       ·rw [if_pos c70] at H
        have c70b0 : (t558 == t540) = true := beq_iff_eq.mpr c70
        have c70b1 : (t558 != t540) = false := bne_eq_false_iff_eq.mpr c70
        clear c70
        by_cases c71 : t560 = t540
        ·rw [if_pos c71] at H
         have c71b0 : (t560 == t540) = true := beq_iff_eq.mpr c71
         have c71b1 : (t560 != t540) = false := bne_eq_false_iff_eq.mpr c71
         clear c71
         by_cases c72 : t562 < 1
         ·rw [if_pos c72] at H
          have c72b0 : decide (t562 < 1) = true := decide_eq_true c72
          clear c72
          have H' := Aq.mk H
          clear H
          go_wp2
          go_meet
          case rel => exact ⟨_, (true), (by first | rfl | (simp; done) | (simp [*]; done)), H', ⟨by have := HJ15.out; have := HJ39.out; first | omega | exact Nat.le_refl _⟩, ⟨by (with_reducible repeat (first | refine kQN ?_ _ | refine kQD ?_ | refine kQA ?_ _)); exact BK539.out⟩, ⟨by repeat (first | (with_reducible first | exact HB.out | apply bQA | apply bQN | apply bQ1 | refine bQS ?_ GE539.out) | exact HB.out)⟩⟩
         ·rw [if_neg c72] at H
          have c72b0 : decide (t562 < 1) = false := decide_eq_false c72
          clear c72
          have H' := Aq.mk H
          clear H
          go_wp2
          go_meet
          case rel => exact ⟨_, (decide (t562 ≥ ji8)), (by first | rfl | (simp; done) | (simp only [← hji8] <;> (first | rfl | simp)) | (simp [*]; done)), H', ⟨by have := HJ15.out; have := HJ39.out; first | omega | exact Nat.le_refl _⟩, ⟨by (with_reducible repeat (first | refine kQN ?_ _ | refine kQD ?_ | refine kQA ?_ _)); exact BK539.out⟩, ⟨by repeat (first | (with_reducible first | exact HB.out | apply bQA | apply bQN | apply bQ1 | refine bQS ?_ GE539.out) | exact HB.out)⟩⟩
        ·rw [if_neg c71] at H
         have c71b0 : (t560 == t540) = false := beq_eq_false_iff_ne.mpr c71
         have c71b1 : (t560 != t540) = true := bne_iff_ne.mpr c71
         have H' := Aq.mk H
         clear H
         go_wp2
         go_meet
         case rel => exact ⟨_, (true), (by first | rfl | (simp; done) | (simp [*]; done)), H', ⟨by have := HJ15.out; have := HJ39.out; first | omega | exact Nat.le_refl _⟩, ⟨by (with_reducible repeat (first | refine kQN ?_ _ | refine kQD ?_ | refine kQA ?_ _)); exact BK539.out⟩, ⟨by repeat (first | (with_reducible first | exact HB.out | apply bQA | apply bQN | apply bQ1 | refine bQS ?_ GE539.out) | exact HB.out)⟩⟩
       ·rw [if_neg c70] at H
        have c70b0 : (t558 == t540) = false := beq_eq_false_iff_ne.mpr c70
        have c70b1 : (t558 != t540) = true := bne_iff_ne.mpr c70
        have H' := Aq.mk H
        clear H
        go_wp2
        go_meet
        case rel => exact ⟨_, (true), (by first | rfl | (simp; done) | (simp [*]; done)), H', ⟨by have := HJ15.out; have := HJ39.out; first | omega | exact Nat.le_refl _⟩, ⟨by (with_reducible repeat (first | refine kQN ?_ _ | refine kQD ?_ | refine kQA ?_ _)); exact BK539.out⟩, ⟨by repeat (first | (with_reducible first | exact HB.out | apply bQA | apply bQN | apply bQ1 | refine bQS ?_ GE539.out) | exact HB.out)⟩⟩
      ·rw [if_neg c69] at H
       have c69b0 : (t563 == 0) = false := beq_eq_false_iff_ne.mpr c69
       have c69b1 : (t563 != 0) = true := bne_iff_ne.mpr c69
       have H' := Aq.mk H
       clear H
       go_wp2
       go_meet
       case rel => exact ⟨_, (true), (by first | rfl | (simp; done) | (simp [*]; done)), H', ⟨by have := HJ15.out; have := HJ39.out; first | omega | exact Nat.le_refl _⟩, ⟨by (with_reducible repeat (first | refine kQN ?_ _ | refine kQD ?_ | refine kQA ?_ _)); exact BK539.out⟩, ⟨by repeat (first | (with_reducible first | exact HB.out | apply bQA | apply bQN | apply bQ1 | refine bQS ?_ GE539.out) | exact HB.out)⟩⟩
     ·rw [if_neg c68] at H
      have c68b0 : (t561 == 0) = false := beq_eq_false_iff_ne.mpr c68
      have c68b1 : (t561 != 0) = true := bne_iff_ne.mpr c68
      have H' := Aq.mk H
      clear H
      go_wp2
      go_meet
      case rel => exact ⟨_, (true), (by first | rfl | (simp; done) | (simp [*]; done)), H', ⟨by have := HJ15.out; have := HJ39.out; first | omega | exact Nat.le_refl _⟩, ⟨by (with_reducible repeat (first | refine kQN ?_ _ | refine kQD ?_ | refine kQA ?_ _)); exact BK539.out⟩, ⟨by repeat (first | (with_reducible first | exact HB.out | apply bQA | apply bQN | apply bQ1 | refine bQS ?_ GE539.out) | exact HB.out)⟩⟩
    ·rw [if_neg c67] at H
     have c67b0 : (t559 == 0) = false := beq_eq_false_iff_ne.mpr c67
     have c67b1 : (t559 != 0) = true := bne_iff_ne.mpr c67
     (first | rw [c67b0] | (simp only [i64_w, i32_w]; rw [c67b0]) | skip)
     have H' := Aq.mk H
     clear H
     go_wp2
     go_meet
     case rel => exact ⟨_, (true), (by first | rfl | (simp; done) | (simp [*]; done)), H', ⟨by have := HJ15.out; have := HJ39.out; first | omega | exact Nat.le_refl _⟩, ⟨by (with_reducible repeat (first | refine kQN ?_ _ | refine kQD ?_ | refine kQA ?_ _)); exact BK539.out⟩, ⟨by repeat (first | (with_reducible first | exact HB.out | apply bQA | apply bQN | apply bQ1 | refine bQS ?_ GE539.out) | exact HB.out)⟩⟩
   case rest =>
    rename_i z2_277 z2_278 z2_279 z2_280 z2_281 z2_282 z2_283 z2_284 z2_285 z2_286 z2_287 z2_288 z2_289 z2_290 z2_291 z2_292 z2_293 z2_294 z2_295 z2_296 z2_297 z2_298 z2_299 z2_300 z2_301 z2_302 z2_303 z2_304 z2_305 z2_306 z2_307 z2_308 z2_309 z2_310 z2_311 z2_312 z2_313 z2_314 z2_315 z2_316 z2_317 z2_318 z2_319 z2_320 z2_321 z2_322 z2_323 z2_324 z2_325 z2_326 z2_327 z2_328 z2_329 z2_330 z2_331 z2_332 z2_333 z2_334 z2_335 z2_336 z2_337 z2_338 z2_339 z2_340 z2_341 z2_342 z2_343 z2_344 z2_345 z2_346 z2_347 z2_348 z2_349 z2_350 z2_351 z2_352 z2_353 z2_354 z2_355 z2_356 z2_357 z2_358 z2_359 z2_360 z2_361 z2_362 z2_363 z2_364 z2_365 z2_366 z2_367 z2_368 z2_369 z2_370 z2_371 z2_372 z2_373 z2_374 z2_375 z2_376 z2_377 z2_378 z2_379 z2_380 z2_381 z2_382 z2_383 z2_384 z2_385 z2_386 z2_387 z2_388 z2_389 z2_390 z2_391 z2_392 z2_393 z2_394 z2_395 z2_396 z2_397 z2_398 z2_399 z2_400 z2_401 z2_402 z2_403 z2_404 z2_405 z2_406 z2_407 z2_408 z2_409 z2_410 z2_411 z2_412 z2_413 z2_414 z2_415 z2_416 z2_417 z2_418 z2_419 z2_420 z2_421 z2_422 z2_423 z2_424 z2_425 z2_426 z2_427 z2_428 z2_429 z2_430 z2_431 z2_432 z2_433 z2_434 z2_435 z2_436 z2_437 z2_438 z2_439 z2_440 z2_441 z2_442 z2_443 z2_444 z2_445 z2_446 z2_447 z2_448 z2_449 z2_450 z2_451 z2_452 z2_453 z2_454 z2_455 z2_456 z2_457 z2_458 z2_459 z2_460 z2_461 z2_462 z2_463 z2_464 z2_465 z2_466 z2_467 z2_468 z2_469 z2_470 z2_471 z2_472 z2_473 z2_474 z2_475 z2_476 z2_477 z2_478 z2_479 z2_480 z2_481 z2_482 z2_483 z2_484 z2_485 z2_486 z2_487 z2_488 z2_489 z2_490 z2_491 z2_492 z2_493 z2_494 z2_495 z2_496 z2_497 z2_498 z2_499 z2_500 z2_501 z2_502 z2_503 z2_504 z2_505 z2_506 z2_507 z2_508 z2_509 z2_510 z2_511 z2_512 z2_513 z2_514 z2_515 z2_516 z2_517 z2_518 z2_519 z2_520 z2_521 z2_522 z2_523 z2_524 z2_525 z2_526 z2_527 z2_528 z2_529 z2_530 z2_531 z2_532 z2_533 z2_534 z2_535 z2_536 z2_537 z2_538 z2_539 z2_540 z2_541 z2_542 z2_543 z2_544 z2_545 z2_546 z2_547 z2_548 z2_549 z2_550 z2_551 z2_552 z2_553
    revert k A0 c0 l0 A1 c1 l1 r w hu39 HR0 HC0 HR1 HC1 A3 t537 t538 A5 ji6 hji6 ji8 hji8 hji8_ hji8z hji8u hji8v hji8y hji8x t540 A9 t541 A10 t542 A11 t543 A12 t544 t545 A13 t546 t547 A14 t548 t549 A15 z0_0 z0_1 z0_2 w17 gb539 w18 GW539 GE539 w20 w22 z0_3 nd w24 w26 w28 z1_4 z1_5 z1_6 z1_7 z1_8 z1_9 z1_10 z1_11 z1_12 z1_13 z1_14 z1_15 z1_16 z1_17 z1_18 z1_19 z1_20 z1_21 z1_22 z1_23 z1_24 z1_25 z1_26 z1_27 z1_28 z1_29 z1_30 z1_31 z1_32 z1_33 z1_34 z1_35 z1_36 z1_37 z1_38 z1_39 z1_40 z1_41 z1_42 z1_43 z1_44 z1_45 z1_46 z1_47 z1_48 z1_49 z1_50 z1_51 z1_52 z1_53 z1_54 z1_55 z1_56 z1_57 z1_58 z1_59 z1_60 z1_61 z1_62 z1_63 z1_64 z1_65 z1_66 z1_67 z1_68 z1_69 z1_70 z1_71 z1_72 z1_73 z1_74 z1_75 z1_76 z1_77 z1_78 z1_79 z1_80 z1_81 z1_82 z1_83 z1_84 z1_85 z1_86 z1_87 z1_88 z1_89 z1_90 z1_91 z1_92 z1_93 z1_94 z1_95 z1_96 z1_97 z1_98 z1_99 z1_100 z1_101 z1_102 z1_103 z1_104 z1_105 z1_106 z1_107 z1_108 z1_109 z1_110 z1_111 z1_112 z1_113 z1_114 z1_115 z1_116 z1_117 z1_118 z1_119 z1_120 z1_121 z1_122 z1_123 z1_124 z1_125 z1_126 z1_127 z1_128 z1_129 z1_130 z1_131 z1_132 z1_133 z1_134 z1_135 z1_136 z1_137 z1_138 z1_139 z1_140 z1_141 z1_142 z1_143 z1_144 z1_145 z1_146 z1_147 z1_148 z1_149 z1_150 z1_151 z1_152 z1_153 z1_154 z1_155 z1_156 z1_157 z1_158 z1_159 z1_160 z1_161 z1_162 z1_163 z1_164 z1_165 z1_166 z1_167 z1_168 z1_169 z1_170 z1_171 z1_172 z1_173 z1_174 z1_175 z1_176 z1_177 z1_178 z1_179 z1_180 z1_181 z1_182 z1_183 z1_184 z1_185 z1_186 z1_187 z1_188 z1_189 z1_190 z1_191 z1_192 z1_193 z1_194 z1_195 z1_196 z1_197 z1_198 z1_199 z1_200 z1_201 z1_202 z1_203 z1_204 z1_205 z1_206 z1_207 z1_208 z1_209 z1_210 z1_211 z1_212 z1_213 z1_214 z1_215 z1_216 z1_217 z1_218 z1_219 z1_220 z1_221 z1_222 z1_223 z1_224 z1_225 z1_226 z1_227 z1_228 z1_229 z1_230 z1_231 z1_232 z1_233 z1_234 z1_235 z1_236 z1_237 z1_238 z1_239 z1_240 z1_241 z1_242 z1_243 z1_244 z1_245 z1_246 z1_247 z1_248 z1_249 z1_250 z1_251 z1_252 z1_253 z1_254 z1_255 z1_256 z1_257 z1_258 z1_259 z1_260 z1_261 z1_262 z1_263 z1_264 z1_265 z1_266 z1_267 z1_268 z1_269 z1_270 z1_271 z1_272 z1_273 z1_274 z1_275 z1_276 kj15 HJ15 t550 t551 A36 t552 t553 A37 t554 t555 A38 t556 t557 A39 w42 w44 w46 w48 z2_277 z2_278 z2_279 z2_280 z2_281 z2_282 z2_283 z2_284 z2_285 z2_286 z2_287 z2_288 z2_289 z2_290 z2_291 z2_292 z2_293 z2_294 z2_295 z2_296 z2_297 z2_298 z2_299 z2_300 z2_301 z2_302 z2_303 z2_304 z2_305 z2_306 z2_307 z2_308 z2_309 z2_310 z2_311 z2_312 z2_313 z2_314 z2_315 z2_316 z2_317 z2_318 z2_319 z2_320 z2_321 z2_322 z2_323 z2_324 z2_325 z2_326 z2_327 z2_328 z2_329 z2_330 z2_331 z2_332 z2_333 z2_334 z2_335 z2_336 z2_337 z2_338 z2_339 z2_340 z2_341 z2_342 z2_343 z2_344 z2_345 z2_346 z2_347 z2_348 z2_349 z2_350 z2_351 z2_352 z2_353 z2_354 z2_355 z2_356 z2_357 z2_358 z2_359 z2_360 z2_361 z2_362 z2_363 z2_364 z2_365 z2_366 z2_367 z2_368 z2_369 z2_370 z2_371 z2_372 z2_373 z2_374 z2_375 z2_376 z2_377 z2_378 z2_379 z2_380 z2_381 z2_382 z2_383 z2_384 z2_385 z2_386 z2_387 z2_388 z2_389 z2_390 z2_391 z2_392 z2_393 z2_394 z2_395 z2_396 z2_397 z2_398 z2_399 z2_400 z2_401 z2_402 z2_403 z2_404 z2_405 z2_406 z2_407 z2_408 z2_409 z2_410 z2_411 z2_412 z2_413 z2_414 z2_415 z2_416 z2_417 z2_418 z2_419 z2_420 z2_421 z2_422 z2_423 z2_424 z2_425 z2_426 z2_427 z2_428 z2_429 z2_430 z2_431 z2_432 z2_433 z2_434 z2_435 z2_436 z2_437 z2_438 z2_439 z2_440 z2_441 z2_442 z2_443 z2_444 z2_445 z2_446 z2_447 z2_448 z2_449 z2_450 z2_451 z2_452 z2_453 z2_454 z2_455 z2_456 z2_457 z2_458 z2_459 z2_460 z2_461 z2_462 z2_463 z2_464 z2_465 z2_466 z2_467 z2_468 z2_469 z2_470 z2_471 z2_472 z2_473 z2_474 z2_475 z2_476 z2_477 z2_478 z2_479 z2_480 z2_481 z2_482 z2_483 z2_484 z2_485 z2_486 z2_487 z2_488 z2_489 z2_490 z2_491 z2_492 z2_493 z2_494 z2_495 z2_496 z2_497 z2_498 z2_499 z2_500 z2_501 z2_502 z2_503 z2_504 z2_505 z2_506 z2_507 z2_508 z2_509 z2_510 z2_511 z2_512 z2_513 z2_514 z2_515 z2_516 z2_517 z2_518 z2_519 z2_520 z2_521 z2_522 z2_523 z2_524 z2_525 z2_526 z2_527 z2_528 z2_529 z2_530 z2_531 z2_532 z2_533 z2_534 z2_535 z2_536 z2_537 z2_538 z2_539 z2_540 z2_541 z2_542 z2_543 z2_544 z2_545 z2_546 z2_547 z2_548 z2_549 kj39 HJ39 t558 t559 A57 t560 t561 A58 t562 t563 A59 HC60 hcz61_0 hcz61_1 hfz61_0 hfz61_1 w62 hcz63_0 hcz63_1 hfz63_0 hfz63_1 w64 hcz65_0 hcz65_1 hfz65_0 hfz65_1 w66 BK539 HB z2_550 z2_551 z2_552 z2_553 wc u41 u42 u43 u44 u45 u46 u47 u48 u49 u50 u51 u52 u53 u54 u55 u56 u57 u58 u59 u60 u61 u62 u63 u64 u65 u66 u67 u68 u69 u70 u71 u72 u73 u74 u75 u76 u77 u78 u79 u80 u81 u82 u83 u84 u85 u86 u87 u88 u89 u90 u91 u92 u93 u94 u95 u96 u97 u98 u99 u100 u101 u102 u103 u104 u105 u106 u107 u108 u109 u110 u111 u112 u113 u114 u115 u116 u117 u118 u119 u120 u121 u122 u123 u124 u125 u126 u127 u128 u129 u130 u131 u132 u133 u134 u135 u136 u137 u138 u139 u140 u141 u142 u143 u144 u145 u146 u147 u148 u149 u150 u151 u152 u153 u154 u155 u156 u157 u158 u159 u160 u161 u162 u163 u164 u165 u166 u167 u168 u169 u170 u171 u172 u173 u174 u175 u176 u177 u178 u179 u180 u181 u182 u183 u184 u185 u186 u187 u188 u189 u190 u191 u192 u193 u194 u195 u196 u197 u198 u199 u200 u201 u202 u203 u204 u205 u206 u207 u208 u209 u210 u211 u212 u213 u214 u215 u216 u217 u218 u219 u220 u221 u222 u223 u224 u225 u226 u227 u228 u229 u230 u231 u232 u233 u234 u235 u236 u237 u238 u239 u240 u241 u242 u243 u244 u245 u246 u247 u248 u249 u250 u251 u252 u253 u254 u255 u256 u257 u258 u259 u260 u261 u262 u263 u264 u265 u266 u267 u268 u269 u270 u271 u272 u273 u274 u275 u276 u277 u278 u279 u280 u281 u282 u283 u284 u285 u286 u287 u288 u289 u290 u291 u292 u293 u294 u295 u296 u297 u298 u299 u300 u301 u302 u303 u304 u305 u306 u307 u308 u309 u310 u311 hcut
    exact hG_.out
end Go.Proofs.Ytljcjoodnkdljaa.P
