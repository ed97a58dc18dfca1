/- Functions of the program and what they tell, as the printing program wrote it. -/
import Derived.Test.YtkedpfkdnhameaaPx0
import Derived.Test.YtkedpfkdnhameaaPx1
import Derived.Test.YtkedpfkdnhameaaPx2
import Derived.Test.YtkedpfkdnhameaaPx3
import Derived.Test.YtkedpfkdnhameaaPx4
import Derived.Test.YtkedpfkdnhameaaPx5
import Derived.Test.YtkedpfkdnhameaaPx6
import Derived.Test.YtkedpfkdnhameaaPx7
import Derived.Test.YtkedpfkdnhameaaPx8c
namespace Go.Proofs.Ytkedpfkdnhameaa.P
open Go.Shelf Go.RowKit Go.Proofs.YtkedpfkdnhameaaW.PrintWords Go.Proofs.YtkedpfkdnhameaaW.PrintLast Go.Proofs.YtkedpfkdnhameaaW.PrintMore
attribute [local go_sem] max2_int min2_int max_two min_two max_three min_three max_four min_four
set_option linter.unusedVariables false
set_option linter.unusedSimpArgs false
set_option maxHeartbeats 8000000 in
set_option maxRecDepth 100000 in
noncomputable def laws_FnConjugates.G3 : { G_ : Prop // laws_FnConjugates.W G_ → laws_FnConjugates.G2.1 } := by
 constructor
 intro hG_
 intro k A0 c0 l0 A1 c1 l1 r w hu25 HR0 HC0 HR1 HC1 A3 t271 t272 A5 ji6 hji6 ji8 hji8 hji8_ hji8z hji8u hji8v hji8y hji8x t274 A9 t275 A10 t276 t279 A11 t280 t281 A12 z0_0 nd z0_1 w14 gb273 w15 GW273 GE273 w17 w19 w21 w23 z1_0 z1_1 wc u34 u35 u36 u37 u38 u39 u40 u41 u42 u43 u44 u45 u46 u47 u48 u49 u50 u51 u52 u53 u54 u55 u56 u57 u58 u59 u60 u61 u62 u63 u64 u65 u66 u67 u68 u69 u70 u71 u72 u73 u74 u75 u76 u77 u78 u79 u80 u81 u82 u83 u84 u85 u86 u87 u88 u89 u90 u91 u92 u93 u94 u95 u96 z1_2 z1_3 z1_4 z1_5 z1_6 z1_7 z1_8 z1_9 z1_10 z1_11 z1_12 z1_13 z1_14 z1_15 z1_16 z1_17 z1_18 z1_19 z1_20 z1_21 z1_22 z1_23 z1_24 z1_25 z1_26 z1_27 z1_28 z1_29 z1_30 z1_31 z1_32 z1_33 z1_34 z1_35 z1_36 z1_37 z1_38 z1_39 z1_40 z1_41 z1_42 z1_43 z1_44 z1_45 z1_46 z1_47 z1_48 z1_49 z1_50 z1_51 z1_52 z1_53 z1_54 z2_0 z2_1 z2_2 z2_3 z2_4 z2_5 z2_6 z2_7 z2_8 z2_9 z2_10 z2_11 z2_12 z2_13 z2_14 z2_15 z2_16 z2_17 z2_18 z2_19 z2_20 z2_21 z2_22 z2_23 z2_24 z2_25 z2_26 z2_27 z2_28 z2_29 z2_30 z2_31 z2_32 z2_33 z2_34 z2_35 z2_36 z2_37 z2_38 z2_39 z2_40 z2_41 z2_42 z2_43 z2_44 z2_45 z2_46 z2_47 z2_48 z2_49 z2_50 z2_51 z2_52 z2_53 z2_54 z2_55 z2_56 z2_57 z2_58 z2_59 z2_60 z2_61 u213 u214 u215 u216 u217 u218 u219 u220 u221 u222 u223 u224 u225 u226 u227 u228 u229 u230 u231 u232 u233 u234 u235 u236 u237 u238 u239 u240 u241 u242 u243 u244 u245 u246 u247 u248 u249 u250 u251 u252 u253 u254 u255 z2_62 z2_63 kj12 HJ12 z1_55 z2_64 z2_65 u14 u15 u16 u17 u18 u19 u98 u99 u100 u101 u102 u103 u104 u105 u106 u107 u108 u109 u110 u111 u112 u113 u114 u115 u116 u117 u118 u119 u120 u121 u122 u123 u124 u125 u126 u127 u128 u129 u130 u131 u132 u133 u134 u135 u136 u137 u138 u139 u140 u141 u142 u143 u144 u145 u146 u147 u148 u149 u150 z1_57 z1_58 x13_2 BK273 HB k2 z1_60 HK2 c42b0 H' Ao64 co64 HO278 z2_66 z1_59 HO_9 z2_67 z2_68 z2_69 z2_70 gk wr u4 u20 u21 u22 u23 u24 u25 u26 u27 u151 u152 u153 u154 u155 u156 u157 u158 u159 u160 u161 u162 u163 u164 u165 u166 u167 u168 u169 u170 u171 u172 u173 u174 u175 u176 u177 u178 u179 u180 u181 u182 u183 u184 u185 u186 u187 u188 u189 u190 u191 u192 u193 u194 u195 u196 u197 u198 u199 u200 u201 u202 u203 u204 u205 u206 u207 u208 u209 u210 u211 u212 hrel z2_71 z2_72 z2_73 z2_74
 clear H'
 try clear c1
 try clear c2
 try clear p2
 try clear q2
 try clear hx2
 try clear qi2
 try clear c3
 try clear c4
 try clear c5
 try clear c6
 try clear p6
 try clear c7
 try clear c7b0
 try clear c7b1
 try clear c8
 try clear c11
 try clear c24
 try clear c24b0
 try clear c24b1
 try clear c25
 try clear c25b0
 try clear c25b1
 try clear c26
 try clear c26b0
 try clear c26b1
 try clear c28
 try clear c28b0
 try clear c28b1
 try clear p28
 try clear q28
 try clear hx28
 try clear qi28
 try clear c29
 try clear c29b0
 try clear c29b1
 try clear c31
 try clear c32
 try clear c32b0
 try clear c32b1
 try clear c32b2
 try clear c33
 try clear c33b0
 try clear c33b1
 try clear c41
 try clear c42
 try clear c42b0
 try clear c43
 try clear c43b0
 try clear c48
 try clear c48b0
 try clear c50
 try clear c50b0
 try clear c50b1
 try clear c52
 try clear c52b0
 try clear c52b1
 try clear c53
 try clear c53b0
 try clear c54
 try clear c54b0
 try clear c56
 try clear c56b0
 try clear c56b1
 try clear c61
 try clear c61b0
 try clear c61b1
 try clear c62
 try clear c62b0
 try clear c62b1
 try clear c63
 try clear c63b0
 try clear c63b1
 try clear p64
 try clear hcz16_0
 try clear hcz16_1
 try clear hcz18_0
 try clear hcz18_1
 try clear hcz20_0
 try clear hcz20_1
 try clear hcz22_0
 try clear hcz22_1
 try clear hcz36_0
 try clear hcz36_1
 try clear hcz38_0
 try clear hcz38_1
 try clear hfz16_0
 try clear hfz16_1
 try clear hfz18_0
 try clear hfz18_1
 try clear hfz20_0
 try clear hfz20_1
 try clear hfz22_0
 try clear hfz22_1
 try clear hfz36_0
 try clear hfz36_1
 try clear hfz38_0
 try clear hfz38_1
 try clear hx282_0
 try clear hx285_0
 try clear hx288_0
 try clear p2
 try clear p28
 try clear p282
 try clear p285
 try clear p288
 try clear p6
 try clear q2
 try clear q28
 try clear q282
 try clear q285
 try clear q288
 obtain ⟨x20_3, x21_3, rfl, rfl, HA, HK3, BK273, HB⟩ := hrel
 cases gk with
 | zero => exact absurd HA.out (by simp [laws_FnConjugates.l2])
 | succ k3 =>
  have H := HA.out
  clear HA
  simp only [laws_FnConjugates.l2] at H
  by_cases c65 : x21_3 < ji8
  ·rw [if_pos c65] at H
   have c65b0 : decide (x21_3 < ji8) = true := decide_eq_true c65
   clear c65
   replace H := Option.bind_eq_some_iff.mp H
   obtain ⟨⟨t297, t298⟩, A660, H⟩ := H
   replace H : ((impl_SplitIn.f k3 t271 t272 x21_3).bind fun bt299 => (if t298 = 0 then (if t297 = 0 then (laws_FnConjugates.j4 k3 ji8 t274 t275 x20_3 x21_3 t297 bt299.1 ((bt299.2 == 0) != (t297 == 0)) t271 t272) else (if t297 = 1 then (laws_FnConjugates.j4 k3 ji8 t274 t275 x20_3 x21_3 t297 bt299.1 ((bt299.2 == 0) != (t297 == 0)) t271 t272) else (laws_FnConjugates.j4 k3 ji8 t274 t275 x20_3 x21_3 t297 bt299.1 true t271 t272))) else (laws_FnConjugates.j4 k3 ji8 t274 t275 x20_3 x21_3 t297 bt299.1 true t271 t272))) = some r := H
   have A66 := Aq.mk A660
   clear A660
   replace H := Option.bind_eq_some_iff.mp H
   obtain ⟨⟨t299, t300⟩, A670, H⟩ := H
   replace H : (if t298 = 0 then (if t297 = 0 then (laws_FnConjugates.j4 k3 ji8 t274 t275 x20_3 x21_3 t297 t299 ((t300 == 0) != (t297 == 0)) t271 t272) else (if t297 = 1 then (laws_FnConjugates.j4 k3 ji8 t274 t275 x20_3 x21_3 t297 t299 ((t300 == 0) != (t297 == 0)) t271 t272) else (laws_FnConjugates.j4 k3 ji8 t274 t275 x20_3 x21_3 t297 t299 true t271 t272))) else (laws_FnConjugates.j4 k3 ji8 t274 t275 x20_3 x21_3 t297 t299 true t271 t272)) = some r := H
   have A67 := Aq.mk A670
   clear A670
   have HC68 := Aq.mk H
   clear H
   have hcz69_0 : wr.cell? ⟨gb273, 0, none⟩ = some (.int .i64 t271) := (kQC BK273.out 0).trans rfl
   have hcz69_1 : wr.cell? ⟨gb273, 1, none⟩ = some (.int .i64 t272) := (kQC BK273.out 1).trans rfl
   have hfz69_0 := kQF BK273.out 0
   have hfz69_1 := kQF BK273.out 1
   go_upto_region 32 with (first | ((with_reducible refine gQc (f := 12) rfl ?_); refine goesL_ (some 159) rfl rfl Try.func12 (by kernel_rfl) rfl #[.agg #[.int .i64 t271, .int .i64 t272], .int .i64 x21_3] rfl (by (try simp only [List.map_toArray, List.map_cons, List.map_nil]); first | done | rfl | (simp only [List.length_drop, List.length_take]; rfl)) ?_; (with_reducible refine (impl_TraceIn.calls k3 t271 t272 x21_3 t297 t298 _ A66.out).mono ?_); rintro e w70 ⟨rfl, hb⟩; refine ⟨_, rfl, ?_⟩; have n0_ := Aq.mk (kQB (g := gb273) (o := .cells #[.int .i64 t271, .int .i64 t272] 25 (0, 0)) (by (with_reducible repeat (first | refine kQN ?_ _ | refine kQD ?_ | refine kQA ?_ _)); exact BK273.out) hb); have n1_ := Aq.mk (bQT (by repeat (first | (with_reducible first | exact HB.out | apply bQA | apply bQN | apply bQ1 | refine bQS ?_ GE273.out) | exact HB.out)) hb); clear BK273; clear HB; have BK273 := n0_; have HB := n1_; clear n0_ n1_; (try clear hb); (try clear hb2); (try clear hk); (try clear hi); have hcz71_0 : w70.cell? ⟨gb273, 0, none⟩ = some (.int .i64 t271) := (kQC BK273.out 0).trans rfl; have hcz71_1 : w70.cell? ⟨gb273, 1, none⟩ = some (.int .i64 t272) := (kQC BK273.out 1).trans rfl; have hfz71_0 := kQF BK273.out 0; have hfz71_1 := kQF BK273.out 1) | ((with_reducible refine gQc (f := 13) rfl ?_); refine goesL_ (some 165) rfl rfl Try.func13 (by kernel_rfl) rfl #[.agg #[.int .i64 t271, .int .i64 t272], .int .i64 x21_3] rfl (by (try simp only [List.map_toArray, List.map_cons, List.map_nil]); first | done | rfl | (simp only [List.length_drop, List.length_take]; rfl)) ?_; (with_reducible refine (impl_SplitIn.calls k3 t271 t272 x21_3 t299 t300 _ A67.out).mono ?_); rintro e w72 ⟨rfl, hb⟩; refine ⟨_, rfl, ?_⟩; have n0_ := Aq.mk (kQB (g := gb273) (o := .cells #[.int .i64 t271, .int .i64 t272] 25 (0, 0)) (by (with_reducible repeat (first | refine kQN ?_ _ | refine kQD ?_ | refine kQA ?_ _)); exact BK273.out) hb); have n1_ := Aq.mk (bQT (by repeat (first | (with_reducible first | exact HB.out | apply bQA | apply bQN | apply bQ1 | refine bQS ?_ GE273.out) | exact HB.out)) hb); clear BK273; clear HB; have BK273 := n0_; have HB := n1_; clear n0_ n1_; (try clear hb); (try clear hb2); (try clear hk); (try clear hi)))
   (try simp only [Act.put, qSa, qSb, qSc])
   go_cut [184] (fun v184 wc => ∃ (kq : Nat) (x184_67 : Bool), v184 = .bool x184_67 ∧ Aq (laws_FnConjugates.j4 kq ji8 t274 t275 x20_3 x21_3 t297 t299 x184_67 t271 t272 = some r) ∧ Aq (kq ≤ k3) ∧ Aq (wc.heap[gb273]? = some (.cells #[.int .i64 t271, .int .i64 t272] 25 (0, 0))) ∧ Aq (Below w.heap.size w wc))
   case first =>
    have H := HC68.out
    clear HC68
    by_cases c73 : t298 = 0
    ·rw [if_pos c73] at H
     have c73b0 : (t298 == 0) = true := beq_iff_eq.mpr c73
     have c73b1 : (t298 != 0) = false := bne_eq_false_iff_eq.mpr c73
     clear c73
     (first | rw [c73b0] | (simp only [i64_w, i32_w]; rw [c73b0]) | skip)
     by_cases c74 : t297 = 0
     ·rw [if_pos c74] at H
      have c74b0 : (t297 == 0) = true := beq_iff_eq.mpr c74
      have c74b1 : (t297 != 0) = false := bne_eq_false_iff_eq.mpr c74
      clear c74
      have H' := Aq.mk H
      clear H
      go_wp2
      go_meet
      case rel => exact ⟨_, (((t300 == 0) != (t297 == 0))), (by first | rfl | (simp; done) | (simp [*]; done)), H', ⟨by have := HJ12.out; have := HK2.out; have := HK3.out; first | omega | exact Nat.le_refl _⟩, ⟨by (with_reducible repeat (first | refine kQN ?_ _ | refine kQD ?_ | refine kQA ?_ _)); exact BK273.out⟩, ⟨by repeat (first | (with_reducible first | exact HB.out | apply bQA | apply bQN | apply bQ1 | refine bQS ?_ GE273.out) | exact HB.out)⟩⟩
     ·rw [if_neg c74] at H
      have c74b0 : (t297 == 0) = false := beq_eq_false_iff_ne.mpr c74
      have c74b1 : (t297 != 0) = true := bne_iff_ne.mpr c74
      by_cases c75 : t297 = 1
      ·rw [if_pos c75] at H
       have c75b0 : (t297 == 1) = true := beq_iff_eq.mpr c75
       have c75b1 : (t297 != 1) = false := bne_eq_false_iff_eq.mpr c75
       clear c75
       have H' := Aq.mk H
       clear H
       go_wp2
       go_meet
       case rel => exact ⟨_, (((t300 == 0) != (t297 == 0))), (by first | rfl | (simp; done) | (simp [*]; done)), H', ⟨by have := HJ12.out; have := HK2.out; have := HK3.out; first | omega | exact Nat.le_refl _⟩, ⟨by (with_reducible repeat (first | refine kQN ?_ _ | refine kQD ?_ | refine kQA ?_ _)); exact BK273.out⟩, ⟨by repeat (first | (with_reducible first | exact HB.out | apply bQA | apply bQN | apply bQ1 | refine bQS ?_ GE273.out) | exact HB.out)⟩⟩
      ·rw [if_neg c75] at H
       have c75b0 : (t297 == 1) = false := beq_eq_false_iff_ne.mpr c75
       have c75b1 : (t297 != 1) = true := bne_iff_ne.mpr c75
       have H' := Aq.mk H
       clear H
       go_wp2
       go_meet
       case rel => exact ⟨_, (true), (by first | rfl | (simp; done) | (simp [*]; done)), H', ⟨by have := HJ12.out; have := HK2.out; have := HK3.out; first | omega | exact Nat.le_refl _⟩, ⟨by (with_reducible repeat (first | refine kQN ?_ _ | refine kQD ?_ | refine kQA ?_ _)); exact BK273.out⟩, ⟨by repeat (first | (with_reducible first | exact HB.out | apply bQA | apply bQN | apply bQ1 | refine bQS ?_ GE273.out) | exact HB.out)⟩⟩
    ·rw [if_neg c73] at H
     have c73b0 : (t298 == 0) = false := beq_eq_false_iff_ne.mpr c73
     have c73b1 : (t298 != 0) = true := bne_iff_ne.mpr c73
     (first | rw [c73b0] | (simp only [i64_w, i32_w]; rw [c73b0]) | skip)
     have H' := Aq.mk H
     clear H
     go_wp2
     go_meet
     case rel => exact ⟨_, (true), (by first | rfl | (simp; done) | (simp [*]; done)), H', ⟨by have := HJ12.out; have := HK2.out; have := HK3.out; first | omega | exact Nat.le_refl _⟩, ⟨by (with_reducible repeat (first | refine kQN ?_ _ | refine kQD ?_ | refine kQA ?_ _)); exact BK273.out⟩, ⟨by repeat (first | (with_reducible first | exact HB.out | apply bQA | apply bQN | apply bQ1 | refine bQS ?_ GE273.out) | exact HB.out)⟩⟩
   case rest =>
    rename_i z3_0 z3_1 z3_2 z3_3 z3_4 z3_5 z3_6 z3_7 z3_8 z3_9 z3_10 z3_11 z3_12 z3_13 z3_14 z3_15 z3_16 z3_17 z3_18 z3_19 z3_20 z3_21 z3_22 z3_23 z3_24 z3_25 z3_26 z3_27 z3_28 z3_29 z3_30 z3_31 z3_32 z3_33 z3_34 z3_35 z3_36 z3_37 z3_38 z3_39 z3_40 z3_41 z3_42 z3_43 z3_44 z3_45 z3_46 z3_47 z3_48 z3_49 z3_50 z3_51 z3_52 z3_53 z3_54 z3_55 z3_56 z3_57 z3_58 z3_59 z3_60 z3_61 z3_62 z3_63 z3_64 z3_65 z3_66 z3_67 z3_68 z3_69 z3_70
    revert k A0 c0 l0 A1 c1 l1 r w hu25 HR0 HC0 HR1 HC1 A3 t271 t272 A5 ji6 hji6 ji8 hji8 hji8_ hji8z hji8u hji8v hji8y hji8x t274 A9 t275 A10 t276 t279 A11 t280 t281 A12 z0_0 nd z0_1 w14 gb273 w15 GW273 GE273 w17 w19 w21 w23 z1_0 z1_1 z3_0 u34 u35 u36 u37 u38 u39 u40 u41 u42 u43 u44 u45 u46 u47 u48 u49 u50 u51 u52 u53 u54 u55 u56 u57 u58 u59 u60 u61 u62 u63 u64 u65 u66 u67 u68 u69 u70 u71 u72 u73 u74 u75 u76 u77 u78 u79 u80 u81 u82 u83 u84 u85 u86 u87 u88 u89 u90 u91 u92 u93 u94 u95 u96 z1_2 z1_3 z1_4 z1_5 z1_6 z1_7 z1_8 z1_9 z1_10 z1_11 z1_12 z1_13 z1_14 z1_15 z1_16 z1_17 z1_18 z1_19 z1_20 z1_21 z1_22 z1_23 z1_24 z1_25 z1_26 z1_27 z1_28 z1_29 z1_30 z1_31 z1_32 z1_33 z1_34 z1_35 z1_36 z1_37 z1_38 z1_39 z1_40 z1_41 z1_42 z1_43 z1_44 z1_45 z1_46 z1_47 z1_48 z1_49 z1_50 z1_51 z1_52 z1_53 z1_54 z2_0 z2_1 z2_2 z2_3 z2_4 z2_5 z2_6 z2_7 z2_8 z2_9 z2_10 z2_11 z2_12 z2_13 z2_14 z2_15 z2_16 z2_17 z2_18 z2_19 z2_20 z2_21 z2_22 z2_23 z2_24 z2_25 z2_26 z2_27 z2_28 z2_29 z2_30 z2_31 z2_32 z2_33 z2_34 z2_35 z2_36 z2_37 z2_38 z2_39 z2_40 z2_41 z2_42 z2_43 z2_44 z2_45 z2_46 z2_47 z2_48 z2_49 z2_50 z2_51 z2_52 z2_53 z2_54 z2_55 z2_56 z2_57 z2_58 z2_59 z2_60 z2_61 u213 u214 u215 u216 u217 u218 u219 u220 u221 u222 u223 u224 u225 u226 u227 u228 u229 u230 u231 u232 u233 u234 u235 u236 u237 u238 u239 u240 u241 u242 u243 u244 u245 u246 u247 u248 u249 u250 u251 u252 u253 u254 u255 z2_62 z2_63 kj12 HJ12 z1_55 z2_64 z2_65 u14 u15 u16 u17 u18 u19 u98 u99 u100 u101 u102 u103 u104 u105 u106 u107 u108 u109 u110 u111 u112 u113 u114 u115 u116 u117 u118 u119 u120 u121 u122 u123 u124 u125 u126 u127 u128 u129 u130 u131 u132 u133 u134 u135 u136 u137 u138 u139 u140 u141 u142 u143 u144 u145 u146 u147 u148 u149 u150 z1_57 z1_58 x13_2 z3_1 z3_2 k2 z1_60 HK2 Ao64 co64 HO278 z2_66 z1_59 HO_9 z2_67 z2_68 z2_69 z2_70 wr u4 u22 u23 u24 u25 u26 u27 z3_3 z3_4 z3_5 z3_6 z3_7 z3_8 z3_9 z3_10 z3_11 z3_12 z3_13 z3_14 z3_15 z3_16 z3_17 z3_18 z3_19 z3_20 z3_21 z3_22 z3_23 z3_24 z3_25 z3_26 z3_27 z3_28 z3_29 z3_30 z3_31 z3_32 z3_33 z3_34 z3_35 z3_36 z3_37 z3_38 z3_39 z3_40 z3_41 z3_42 z3_43 z3_44 z3_45 z3_46 z3_47 z3_48 z3_49 z3_50 z3_51 z3_52 z3_53 z3_54 z3_55 z3_56 z3_57 z3_58 z3_59 z3_60 z3_61 z3_62 z3_63 z3_64 z2_71 z2_72 z2_73 x20_3 x21_3 k3 z2_74 HK3 c65b0 t297 t298 A66 t299 t300 A67 HC68 hcz69_0 hcz69_1 hfz69_0 hfz69_1 z3_65 z3_66 w70 hcz71_0 hcz71_1 hfz71_0 hfz71_1 w72 BK273 HB z3_67 z3_68 z3_69 z3_70 wc u151 u152 u153 u154 u155 u156 u157 u158 u159 u160 u161 u162 u163 u164 u165 u166 u167 u168 u169 u170 u171 u172 u173 u174 u175 u176 u177 u178 u179 u180 u181 u182 u183 u184 u185 u186 u187 u188 u189 u190 u191 u192 u193 u194 u195 u196 u197 u198 u199 u200 u201 u202 u203 u204 u205 u206 u207 u208 u209 u210 u211 u212 hcut
    exact hG_.out
  ·rw [if_neg c65] at H
   have c65b0 : decide (x21_3 < ji8) = false := decide_eq_false c65
   clear c65
   replace H := Option.bind_eq_some_iff.mp H
   obtain ⟨⟨t291, t292⟩, A900, H⟩ := H
   replace H : ((impl_TraceIn.f k3 t271 t272 t275).bind fun bt293 => ((impl_TraceIn.f k3 t271 t272 (Go.bits .xor .i64 t274 t275)).bind fun bt295 => (if t292 = 0 then (if bt293.2 = 0 then (if bt295.2 = 0 then (if bt295.1 = (Go.bits .xor .i64 t291 bt293.1) then (some ((wrap64 (2 * x20_3)) == ji8)) else (some false)) else (some false)) else (some false)) else (some false)))) = some r := H
   have A90 := Aq.mk A900
   clear A900
   replace H := Option.bind_eq_some_iff.mp H
   obtain ⟨⟨t293, t294⟩, A910, H⟩ := H
   replace H : ((impl_TraceIn.f k3 t271 t272 (Go.bits .xor .i64 t274 t275)).bind fun bt295 => (if t292 = 0 then (if t294 = 0 then (if bt295.2 = 0 then (if bt295.1 = (Go.bits .xor .i64 t291 t293) then (some ((wrap64 (2 * x20_3)) == ji8)) else (some false)) else (some false)) else (some false)) else (some false))) = some r := H
   have A91 := Aq.mk A910
   clear A910
   replace H := Option.bind_eq_some_iff.mp H
   obtain ⟨⟨t295, t296⟩, A920, H⟩ := H
   replace H : (if t292 = 0 then (if t294 = 0 then (if t296 = 0 then (if t295 = (Go.bits .xor .i64 t291 t293) then (some ((wrap64 (2 * x20_3)) == ji8)) else (some false)) else (some false)) else (some false)) else (some false)) = some r := H
   have A92 := Aq.mk A920
   clear A920
   by_cases c93 : t292 = 0
   ·rw [if_pos c93] at H
    have c93b0 : (t292 == 0) = true := beq_iff_eq.mpr c93
    have c93b1 : (t292 != 0) = false := bne_eq_false_iff_eq.mpr c93
    clear c93
    by_cases c94 : t294 = 0
    ·rw [if_pos c94] at H
     have c94b0 : (t294 == 0) = true := beq_iff_eq.mpr c94
     have c94b1 : (t294 != 0) = false := bne_eq_false_iff_eq.mpr c94
     clear c94
     by_cases c95 : t296 = 0
     ·rw [if_pos c95] at H
      have c95b0 : (t296 == 0) = true := beq_iff_eq.mpr c95
      have c95b1 : (t296 != 0) = false := bne_eq_false_iff_eq.mpr c95
      clear c95
      by_cases c96 : t295 = (Go.bits .xor .i64 t291 t293)
      ·rw [if_pos c96] at H
       have c96b0 : (t295 == (Go.bits .xor .i64 t291 t293)) = true := beq_iff_eq.mpr c96
       have c96b1 : (t295 != (Go.bits .xor .i64 t291 t293)) = false := bne_eq_false_iff_eq.mpr c96
       clear c96
       obtain rfl := Option.some.inj H
       have hcz97_0 : wr.cell? ⟨gb273, 0, none⟩ = some (.int .i64 t271) := (kQC BK273.out 0).trans rfl
       have hcz97_1 : wr.cell? ⟨gb273, 1, none⟩ = some (.int .i64 t272) := (kQC BK273.out 1).trans rfl
       have hfz97_0 := kQF BK273.out 0
       have hfz97_1 := kQF BK273.out 1
       go_wp2_with (first | ((with_reducible refine gQc (f := 12) rfl ?_); refine goesL_ (some 216) rfl rfl Try.func12 (by kernel_rfl) rfl #[.agg #[.int .i64 t271, .int .i64 t272], .int .i64 t274] rfl (by (try simp only [List.map_toArray, List.map_cons, List.map_nil]); first | done | rfl | (simp only [List.length_drop, List.length_take]; rfl)) ?_; (with_reducible refine (impl_TraceIn.calls k3 t271 t272 t274 t291 t292 _ A90.out).mono ?_); rintro e w98 ⟨rfl, hb⟩; refine ⟨_, rfl, ?_⟩; have n0_ := Aq.mk (kQB (g := gb273) (o := .cells #[.int .i64 t271, .int .i64 t272] 25 (0, 0)) (by (with_reducible repeat (first | refine kQN ?_ _ | refine kQD ?_ | refine kQA ?_ _)); exact BK273.out) hb); have n1_ := Aq.mk (bQT (by repeat (first | (with_reducible first | exact HB.out | apply bQA | apply bQN | apply bQ1 | refine bQS ?_ GE273.out) | exact HB.out)) hb); clear BK273; clear HB; have BK273 := n0_; have HB := n1_; clear n0_ n1_; (try clear hb); (try clear hb2); (try clear hk); (try clear hi); have hcz99_0 : w98.cell? ⟨gb273, 0, none⟩ = some (.int .i64 t271) := (kQC BK273.out 0).trans rfl; have hcz99_1 : w98.cell? ⟨gb273, 1, none⟩ = some (.int .i64 t272) := (kQC BK273.out 1).trans rfl; have hfz99_0 := kQF BK273.out 0; have hfz99_1 := kQF BK273.out 1) | ((with_reducible refine gQc (f := 12) rfl ?_); refine goesL_ (some 222) rfl rfl Try.func12 (by kernel_rfl) rfl #[.agg #[.int .i64 t271, .int .i64 t272], .int .i64 t275] rfl (by (try simp only [List.map_toArray, List.map_cons, List.map_nil]); first | done | rfl | (simp only [List.length_drop, List.length_take]; rfl)) ?_; (with_reducible refine (impl_TraceIn.calls k3 t271 t272 t275 t293 t294 _ A91.out).mono ?_); rintro e w100 ⟨rfl, hb⟩; refine ⟨_, rfl, ?_⟩; have n0_ := Aq.mk (kQB (g := gb273) (o := .cells #[.int .i64 t271, .int .i64 t272] 25 (0, 0)) (by (with_reducible repeat (first | refine kQN ?_ _ | refine kQD ?_ | refine kQA ?_ _)); exact BK273.out) hb); have n1_ := Aq.mk (bQT (by repeat (first | (with_reducible first | exact HB.out | apply bQA | apply bQN | apply bQ1 | refine bQS ?_ GE273.out) | exact HB.out)) hb); clear BK273; clear HB; have BK273 := n0_; have HB := n1_; clear n0_ n1_; (try clear hb); (try clear hb2); (try clear hk); (try clear hi); have hcz101_0 : w100.cell? ⟨gb273, 0, none⟩ = some (.int .i64 t271) := (kQC BK273.out 0).trans rfl; have hcz101_1 : w100.cell? ⟨gb273, 1, none⟩ = some (.int .i64 t272) := (kQC BK273.out 1).trans rfl; have hfz101_0 := kQF BK273.out 0; have hfz101_1 := kQF BK273.out 1) | ((with_reducible refine gQc (f := 12) rfl ?_); refine goesL_ (some 230) rfl rfl Try.func12 (by kernel_rfl) rfl #[.agg #[.int .i64 t271, .int .i64 t272], .int .i64 (Go.bits .xor .i64 t274 t275)] rfl (by (try simp only [List.map_toArray, List.map_cons, List.map_nil]); first | done | rfl | (simp only [List.length_drop, List.length_take]; rfl)) ?_; (with_reducible refine (impl_TraceIn.calls k3 t271 t272 (Go.bits .xor .i64 t274 t275) t295 t296 _ A92.out).mono ?_); rintro e w102 ⟨rfl, hb⟩; refine ⟨_, rfl, ?_⟩; have n0_ := Aq.mk (kQB (g := gb273) (o := .cells #[.int .i64 t271, .int .i64 t272] 25 (0, 0)) (by (with_reducible repeat (first | refine kQN ?_ _ | refine kQD ?_ | refine kQA ?_ _)); exact BK273.out) hb); have n1_ := Aq.mk (bQT (by repeat (first | (with_reducible first | exact HB.out | apply bQA | apply bQN | apply bQ1 | refine bQS ?_ GE273.out) | exact HB.out)) hb); clear BK273; clear HB; have BK273 := n0_; have HB := n1_; clear n0_ n1_; (try clear hb); (try clear hb2); (try clear hk); (try clear hi)))
       go_ret
       exact ⟨by first | rfl | (simp [errW_none, errW_some] <;> rfl) | (simp only [← hji6, ← hji8]; first | rfl | (simp [errW_none, errW_some] <;> rfl)) | (simp [*, errW_none, errW_some] <;> rfl), by repeat (first | (with_reducible first | exact HB.out | apply bQA | apply bQN | apply bQ1 | refine bQS ?_ GE273.out) | exact HB.out)⟩
      ·rw [if_neg c96] at H
       have c96b0 : (t295 == (Go.bits .xor .i64 t291 t293)) = false := beq_eq_false_iff_ne.mpr c96
       have c96b1 : (t295 != (Go.bits .xor .i64 t291 t293)) = true := bne_iff_ne.mpr c96
       obtain rfl := Option.some.inj H
       have hcz103_0 : wr.cell? ⟨gb273, 0, none⟩ = some (.int .i64 t271) := (kQC BK273.out 0).trans rfl
       have hcz103_1 : wr.cell? ⟨gb273, 1, none⟩ = some (.int .i64 t272) := (kQC BK273.out 1).trans rfl
       have hfz103_0 := kQF BK273.out 0
       have hfz103_1 := kQF BK273.out 1
       go_wp2_with (first | ((with_reducible refine gQc (f := 12) rfl ?_); refine goesL_ (some 216) rfl rfl Try.func12 (by kernel_rfl) rfl #[.agg #[.int .i64 t271, .int .i64 t272], .int .i64 t274] rfl (by (try simp only [List.map_toArray, List.map_cons, List.map_nil]); first | done | rfl | (simp only [List.length_drop, List.length_take]; rfl)) ?_; (with_reducible refine (impl_TraceIn.calls k3 t271 t272 t274 t291 t292 _ A90.out).mono ?_); rintro e w104 ⟨rfl, hb⟩; refine ⟨_, rfl, ?_⟩; have n0_ := Aq.mk (kQB (g := gb273) (o := .cells #[.int .i64 t271, .int .i64 t272] 25 (0, 0)) (by (with_reducible repeat (first | refine kQN ?_ _ | refine kQD ?_ | refine kQA ?_ _)); exact BK273.out) hb); have n1_ := Aq.mk (bQT (by repeat (first | (with_reducible first | exact HB.out | apply bQA | apply bQN | apply bQ1 | refine bQS ?_ GE273.out) | exact HB.out)) hb); clear BK273; clear HB; have BK273 := n0_; have HB := n1_; clear n0_ n1_; (try clear hb); (try clear hb2); (try clear hk); (try clear hi); have hcz105_0 : w104.cell? ⟨gb273, 0, none⟩ = some (.int .i64 t271) := (kQC BK273.out 0).trans rfl; have hcz105_1 : w104.cell? ⟨gb273, 1, none⟩ = some (.int .i64 t272) := (kQC BK273.out 1).trans rfl; have hfz105_0 := kQF BK273.out 0; have hfz105_1 := kQF BK273.out 1) | ((with_reducible refine gQc (f := 12) rfl ?_); refine goesL_ (some 222) rfl rfl Try.func12 (by kernel_rfl) rfl #[.agg #[.int .i64 t271, .int .i64 t272], .int .i64 t275] rfl (by (try simp only [List.map_toArray, List.map_cons, List.map_nil]); first | done | rfl | (simp only [List.length_drop, List.length_take]; rfl)) ?_; (with_reducible refine (impl_TraceIn.calls k3 t271 t272 t275 t293 t294 _ A91.out).mono ?_); rintro e w106 ⟨rfl, hb⟩; refine ⟨_, rfl, ?_⟩; have n0_ := Aq.mk (kQB (g := gb273) (o := .cells #[.int .i64 t271, .int .i64 t272] 25 (0, 0)) (by (with_reducible repeat (first | refine kQN ?_ _ | refine kQD ?_ | refine kQA ?_ _)); exact BK273.out) hb); have n1_ := Aq.mk (bQT (by repeat (first | (with_reducible first | exact HB.out | apply bQA | apply bQN | apply bQ1 | refine bQS ?_ GE273.out) | exact HB.out)) hb); clear BK273; clear HB; have BK273 := n0_; have HB := n1_; clear n0_ n1_; (try clear hb); (try clear hb2); (try clear hk); (try clear hi); have hcz107_0 : w106.cell? ⟨gb273, 0, none⟩ = some (.int .i64 t271) := (kQC BK273.out 0).trans rfl; have hcz107_1 : w106.cell? ⟨gb273, 1, none⟩ = some (.int .i64 t272) := (kQC BK273.out 1).trans rfl; have hfz107_0 := kQF BK273.out 0; have hfz107_1 := kQF BK273.out 1) | ((with_reducible refine gQc (f := 12) rfl ?_); refine goesL_ (some 230) rfl rfl Try.func12 (by kernel_rfl) rfl #[.agg #[.int .i64 t271, .int .i64 t272], .int .i64 (Go.bits .xor .i64 t274 t275)] rfl (by (try simp only [List.map_toArray, List.map_cons, List.map_nil]); first | done | rfl | (simp only [List.length_drop, List.length_take]; rfl)) ?_; (with_reducible refine (impl_TraceIn.calls k3 t271 t272 (Go.bits .xor .i64 t274 t275) t295 t296 _ A92.out).mono ?_); rintro e w108 ⟨rfl, hb⟩; refine ⟨_, rfl, ?_⟩; have n0_ := Aq.mk (kQB (g := gb273) (o := .cells #[.int .i64 t271, .int .i64 t272] 25 (0, 0)) (by (with_reducible repeat (first | refine kQN ?_ _ | refine kQD ?_ | refine kQA ?_ _)); exact BK273.out) hb); have n1_ := Aq.mk (bQT (by repeat (first | (with_reducible first | exact HB.out | apply bQA | apply bQN | apply bQ1 | refine bQS ?_ GE273.out) | exact HB.out)) hb); clear BK273; clear HB; have BK273 := n0_; have HB := n1_; clear n0_ n1_; (try clear hb); (try clear hb2); (try clear hk); (try clear hi)))
       go_ret
       exact ⟨by first | rfl | (simp [errW_none, errW_some] <;> rfl) | (simp only [← hji6, ← hji8]; first | rfl | (simp [errW_none, errW_some] <;> rfl)) | (simp [*, errW_none, errW_some] <;> rfl), by repeat (first | (with_reducible first | exact HB.out | apply bQA | apply bQN | apply bQ1 | refine bQS ?_ GE273.out) | exact HB.out)⟩
     ·rw [if_neg c95] at H
      have c95b0 : (t296 == 0) = false := beq_eq_false_iff_ne.mpr c95
      have c95b1 : (t296 != 0) = true := bne_iff_ne.mpr c95
      obtain rfl := Option.some.inj H
      have hcz109_0 : wr.cell? ⟨gb273, 0, none⟩ = some (.int .i64 t271) := (kQC BK273.out 0).trans rfl
      have hcz109_1 : wr.cell? ⟨gb273, 1, none⟩ = some (.int .i64 t272) := (kQC BK273.out 1).trans rfl
      have hfz109_0 := kQF BK273.out 0
      have hfz109_1 := kQF BK273.out 1
      go_wp2_with (first | ((with_reducible refine gQc (f := 12) rfl ?_); refine goesL_ (some 216) rfl rfl Try.func12 (by kernel_rfl) rfl #[.agg #[.int .i64 t271, .int .i64 t272], .int .i64 t274] rfl (by (try simp only [List.map_toArray, List.map_cons, List.map_nil]); first | done | rfl | (simp only [List.length_drop, List.length_take]; rfl)) ?_; (with_reducible refine (impl_TraceIn.calls k3 t271 t272 t274 t291 t292 _ A90.out).mono ?_); rintro e w110 ⟨rfl, hb⟩; refine ⟨_, rfl, ?_⟩; have n0_ := Aq.mk (kQB (g := gb273) (o := .cells #[.int .i64 t271, .int .i64 t272] 25 (0, 0)) (by (with_reducible repeat (first | refine kQN ?_ _ | refine kQD ?_ | refine kQA ?_ _)); exact BK273.out) hb); have n1_ := Aq.mk (bQT (by repeat (first | (with_reducible first | exact HB.out | apply bQA | apply bQN | apply bQ1 | refine bQS ?_ GE273.out) | exact HB.out)) hb); clear BK273; clear HB; have BK273 := n0_; have HB := n1_; clear n0_ n1_; (try clear hb); (try clear hb2); (try clear hk); (try clear hi); have hcz111_0 : w110.cell? ⟨gb273, 0, none⟩ = some (.int .i64 t271) := (kQC BK273.out 0).trans rfl; have hcz111_1 : w110.cell? ⟨gb273, 1, none⟩ = some (.int .i64 t272) := (kQC BK273.out 1).trans rfl; have hfz111_0 := kQF BK273.out 0; have hfz111_1 := kQF BK273.out 1) | ((with_reducible refine gQc (f := 12) rfl ?_); refine goesL_ (some 222) rfl rfl Try.func12 (by kernel_rfl) rfl #[.agg #[.int .i64 t271, .int .i64 t272], .int .i64 t275] rfl (by (try simp only [List.map_toArray, List.map_cons, List.map_nil]); first | done | rfl | (simp only [List.length_drop, List.length_take]; rfl)) ?_; (with_reducible refine (impl_TraceIn.calls k3 t271 t272 t275 t293 t294 _ A91.out).mono ?_); rintro e w112 ⟨rfl, hb⟩; refine ⟨_, rfl, ?_⟩; have n0_ := Aq.mk (kQB (g := gb273) (o := .cells #[.int .i64 t271, .int .i64 t272] 25 (0, 0)) (by (with_reducible repeat (first | refine kQN ?_ _ | refine kQD ?_ | refine kQA ?_ _)); exact BK273.out) hb); have n1_ := Aq.mk (bQT (by repeat (first | (with_reducible first | exact HB.out | apply bQA | apply bQN | apply bQ1 | refine bQS ?_ GE273.out) | exact HB.out)) hb); clear BK273; clear HB; have BK273 := n0_; have HB := n1_; clear n0_ n1_; (try clear hb); (try clear hb2); (try clear hk); (try clear hi); have hcz113_0 : w112.cell? ⟨gb273, 0, none⟩ = some (.int .i64 t271) := (kQC BK273.out 0).trans rfl; have hcz113_1 : w112.cell? ⟨gb273, 1, none⟩ = some (.int .i64 t272) := (kQC BK273.out 1).trans rfl; have hfz113_0 := kQF BK273.out 0; have hfz113_1 := kQF BK273.out 1) | ((with_reducible refine gQc (f := 12) rfl ?_); refine goesL_ (some 230) rfl rfl Try.func12 (by kernel_rfl) rfl #[.agg #[.int .i64 t271, .int .i64 t272], .int .i64 (Go.bits .xor .i64 t274 t275)] rfl (by (try simp only [List.map_toArray, List.map_cons, List.map_nil]); first | done | rfl | (simp only [List.length_drop, List.length_take]; rfl)) ?_; (with_reducible refine (impl_TraceIn.calls k3 t271 t272 (Go.bits .xor .i64 t274 t275) t295 t296 _ A92.out).mono ?_); rintro e w114 ⟨rfl, hb⟩; refine ⟨_, rfl, ?_⟩; have n0_ := Aq.mk (kQB (g := gb273) (o := .cells #[.int .i64 t271, .int .i64 t272] 25 (0, 0)) (by (with_reducible repeat (first | refine kQN ?_ _ | refine kQD ?_ | refine kQA ?_ _)); exact BK273.out) hb); have n1_ := Aq.mk (bQT (by repeat (first | (with_reducible first | exact HB.out | apply bQA | apply bQN | apply bQ1 | refine bQS ?_ GE273.out) | exact HB.out)) hb); clear BK273; clear HB; have BK273 := n0_; have HB := n1_; clear n0_ n1_; (try clear hb); (try clear hb2); (try clear hk); (try clear hi)))
      go_ret
      exact ⟨by first | rfl | (simp [errW_none, errW_some] <;> rfl) | (simp only [← hji6, ← hji8]; first | rfl | (simp [errW_none, errW_some] <;> rfl)) | (simp [*, errW_none, errW_some] <;> rfl), by repeat (first | (with_reducible first | exact HB.out | apply bQA | apply bQN | apply bQ1 | refine bQS ?_ GE273.out) | exact HB.out)⟩
    ·rw [if_neg c94] at H
     have c94b0 : (t294 == 0) = false := beq_eq_false_iff_ne.mpr c94
     have c94b1 : (t294 != 0) = true := bne_iff_ne.mpr c94
     obtain rfl := Option.some.inj H
     have hcz115_0 : wr.cell? ⟨gb273, 0, none⟩ = some (.int .i64 t271) := (kQC BK273.out 0).trans rfl
     have hcz115_1 : wr.cell? ⟨gb273, 1, none⟩ = some (.int .i64 t272) := (kQC BK273.out 1).trans rfl
     have hfz115_0 := kQF BK273.out 0
     have hfz115_1 := kQF BK273.out 1
     go_wp2_with (first | ((with_reducible refine gQc (f := 12) rfl ?_); refine goesL_ (some 216) rfl rfl Try.func12 (by kernel_rfl) rfl #[.agg #[.int .i64 t271, .int .i64 t272], .int .i64 t274] rfl (by (try simp only [List.map_toArray, List.map_cons, List.map_nil]); first | done | rfl | (simp only [List.length_drop, List.length_take]; rfl)) ?_; (with_reducible refine (impl_TraceIn.calls k3 t271 t272 t274 t291 t292 _ A90.out).mono ?_); rintro e w116 ⟨rfl, hb⟩; refine ⟨_, rfl, ?_⟩; have n0_ := Aq.mk (kQB (g := gb273) (o := .cells #[.int .i64 t271, .int .i64 t272] 25 (0, 0)) (by (with_reducible repeat (first | refine kQN ?_ _ | refine kQD ?_ | refine kQA ?_ _)); exact BK273.out) hb); have n1_ := Aq.mk (bQT (by repeat (first | (with_reducible first | exact HB.out | apply bQA | apply bQN | apply bQ1 | refine bQS ?_ GE273.out) | exact HB.out)) hb); clear BK273; clear HB; have BK273 := n0_; have HB := n1_; clear n0_ n1_; (try clear hb); (try clear hb2); (try clear hk); (try clear hi); have hcz117_0 : w116.cell? ⟨gb273, 0, none⟩ = some (.int .i64 t271) := (kQC BK273.out 0).trans rfl; have hcz117_1 : w116.cell? ⟨gb273, 1, none⟩ = some (.int .i64 t272) := (kQC BK273.out 1).trans rfl; have hfz117_0 := kQF BK273.out 0; have hfz117_1 := kQF BK273.out 1) | ((with_reducible refine gQc (f := 12) rfl ?_); refine goesL_ (some 222) rfl rfl Try.func12 (by kernel_rfl) rfl #[.agg #[.int .i64 t271, .int .i64 t272], .int .i64 t275] rfl (by (try simp only [List.map_toArray, List.map_cons, List.map_nil]); first | done | rfl | (simp only [List.length_drop, List.length_take]; rfl)) ?_; (with_reducible refine (impl_TraceIn.calls k3 t271 t272 t275 t293 t294 _ A91.out).mono ?_); rintro e w118 ⟨rfl, hb⟩; refine ⟨_, rfl, ?_⟩; have n0_ := Aq.mk (kQB (g := gb273) (o := .cells #[.int .i64 t271, .int .i64 t272] 25 (0, 0)) (by (with_reducible repeat (first | refine kQN ?_ _ | refine kQD ?_ | refine kQA ?_ _)); exact BK273.out) hb); have n1_ := Aq.mk (bQT (by repeat (first | (with_reducible first | exact HB.out | apply bQA | apply bQN | apply bQ1 | refine bQS ?_ GE273.out) | exact HB.out)) hb); clear BK273; clear HB; have BK273 := n0_; have HB := n1_; clear n0_ n1_; (try clear hb); (try clear hb2); (try clear hk); (try clear hi); have hcz119_0 : w118.cell? ⟨gb273, 0, none⟩ = some (.int .i64 t271) := (kQC BK273.out 0).trans rfl; have hcz119_1 : w118.cell? ⟨gb273, 1, none⟩ = some (.int .i64 t272) := (kQC BK273.out 1).trans rfl; have hfz119_0 := kQF BK273.out 0; have hfz119_1 := kQF BK273.out 1) | ((with_reducible refine gQc (f := 12) rfl ?_); refine goesL_ (some 230) rfl rfl Try.func12 (by kernel_rfl) rfl #[.agg #[.int .i64 t271, .int .i64 t272], .int .i64 (Go.bits .xor .i64 t274 t275)] rfl (by (try simp only [List.map_toArray, List.map_cons, List.map_nil]); first | done | rfl | (simp only [List.length_drop, List.length_take]; rfl)) ?_; (with_reducible refine (impl_TraceIn.calls k3 t271 t272 (Go.bits .xor .i64 t274 t275) t295 t296 _ A92.out).mono ?_); rintro e w120 ⟨rfl, hb⟩; refine ⟨_, rfl, ?_⟩; have n0_ := Aq.mk (kQB (g := gb273) (o := .cells #[.int .i64 t271, .int .i64 t272] 25 (0, 0)) (by (with_reducible repeat (first | refine kQN ?_ _ | refine kQD ?_ | refine kQA ?_ _)); exact BK273.out) hb); have n1_ := Aq.mk (bQT (by repeat (first | (with_reducible first | exact HB.out | apply bQA | apply bQN | apply bQ1 | refine bQS ?_ GE273.out) | exact HB.out)) hb); clear BK273; clear HB; have BK273 := n0_; have HB := n1_; clear n0_ n1_; (try clear hb); (try clear hb2); (try clear hk); (try clear hi)))
     go_ret
     exact ⟨by first | rfl | (simp [errW_none, errW_some] <;> rfl) | (simp only [← hji6, ← hji8]; first | rfl | (simp [errW_none, errW_some] <;> rfl)) | (simp [*, errW_none, errW_some] <;> rfl), by repeat (first | (with_reducible first | exact HB.out | apply bQA | apply bQN | apply bQ1 | refine bQS ?_ GE273.out) | exact HB.out)⟩
   ·rw [if_neg c93] at H
    have c93b0 : (t292 == 0) = false := beq_eq_false_iff_ne.mpr c93
    have c93b1 : (t292 != 0) = true := bne_iff_ne.mpr c93
    obtain rfl := Option.some.inj H
    have hcz121_0 : wr.cell? ⟨gb273, 0, none⟩ = some (.int .i64 t271) := (kQC BK273.out 0).trans rfl
    have hcz121_1 : wr.cell? ⟨gb273, 1, none⟩ = some (.int .i64 t272) := (kQC BK273.out 1).trans rfl
    have hfz121_0 := kQF BK273.out 0
    have hfz121_1 := kQF BK273.out 1
    go_wp2_with (first | ((with_reducible refine gQc (f := 12) rfl ?_); refine goesL_ (some 216) rfl rfl Try.func12 (by kernel_rfl) rfl #[.agg #[.int .i64 t271, .int .i64 t272], .int .i64 t274] rfl (by (try simp only [List.map_toArray, List.map_cons, List.map_nil]); first | done | rfl | (simp only [List.length_drop, List.length_take]; rfl)) ?_; (with_reducible refine (impl_TraceIn.calls k3 t271 t272 t274 t291 t292 _ A90.out).mono ?_); rintro e w122 ⟨rfl, hb⟩; refine ⟨_, rfl, ?_⟩; have n0_ := Aq.mk (kQB (g := gb273) (o := .cells #[.int .i64 t271, .int .i64 t272] 25 (0, 0)) (by (with_reducible repeat (first | refine kQN ?_ _ | refine kQD ?_ | refine kQA ?_ _)); exact BK273.out) hb); have n1_ := Aq.mk (bQT (by repeat (first | (with_reducible first | exact HB.out | apply bQA | apply bQN | apply bQ1 | refine bQS ?_ GE273.out) | exact HB.out)) hb); clear BK273; clear HB; have BK273 := n0_; have HB := n1_; clear n0_ n1_; (try clear hb); (try clear hb2); (try clear hk); (try clear hi); have hcz123_0 : w122.cell? ⟨gb273, 0, none⟩ = some (.int .i64 t271) := (kQC BK273.out 0).trans rfl; have hcz123_1 : w122.cell? ⟨gb273, 1, none⟩ = some (.int .i64 t272) := (kQC BK273.out 1).trans rfl; have hfz123_0 := kQF BK273.out 0; have hfz123_1 := kQF BK273.out 1) | ((with_reducible refine gQc (f := 12) rfl ?_); refine goesL_ (some 222) rfl rfl Try.func12 (by kernel_rfl) rfl #[.agg #[.int .i64 t271, .int .i64 t272], .int .i64 t275] rfl (by (try simp only [List.map_toArray, List.map_cons, List.map_nil]); first | done | rfl | (simp only [List.length_drop, List.length_take]; rfl)) ?_; (with_reducible refine (impl_TraceIn.calls k3 t271 t272 t275 t293 t294 _ A91.out).mono ?_); rintro e w124 ⟨rfl, hb⟩; refine ⟨_, rfl, ?_⟩; have n0_ := Aq.mk (kQB (g := gb273) (o := .cells #[.int .i64 t271, .int .i64 t272] 25 (0, 0)) (by (with_reducible repeat (first | refine kQN ?_ _ | refine kQD ?_ | refine kQA ?_ _)); exact BK273.out) hb); have n1_ := Aq.mk (bQT (by repeat (first | (with_reducible first | exact HB.out | apply bQA | apply bQN | apply bQ1 | refine bQS ?_ GE273.out) | exact HB.out)) hb); clear BK273; clear HB; have BK273 := n0_; have HB := n1_; clear n0_ n1_; (try clear hb); (try clear hb2); (try clear hk); (try clear hi); have hcz125_0 : w124.cell? ⟨gb273, 0, none⟩ = some (.int .i64 t271) := (kQC BK273.out 0).trans rfl; have hcz125_1 : w124.cell? ⟨gb273, 1, none⟩ = some (.int .i64 t272) := (kQC BK273.out 1).trans rfl; have hfz125_0 := kQF BK273.out 0; have hfz125_1 := kQF BK273.out 1) | ((with_reducible refine gQc (f := 12) rfl ?_); refine goesL_ (some 230) rfl rfl Try.func12 (by kernel_rfl) rfl #[.agg #[.int .i64 t271, .int .i64 t272], .int .i64 (Go.bits .xor .i64 t274 t275)] rfl (by (try simp only [List.map_toArray, List.map_cons, List.map_nil]); first | done | rfl | (simp only [List.length_drop, List.length_take]; rfl)) ?_; (with_reducible refine (impl_TraceIn.calls k3 t271 t272 (Go.bits .xor .i64 t274 t275) t295 t296 _ A92.out).mono ?_); rintro e w126 ⟨rfl, hb⟩; refine ⟨_, rfl, ?_⟩; have n0_ := Aq.mk (kQB (g := gb273) (o := .cells #[.int .i64 t271, .int .i64 t272] 25 (0, 0)) (by (with_reducible repeat (first | refine kQN ?_ _ | refine kQD ?_ | refine kQA ?_ _)); exact BK273.out) hb); have n1_ := Aq.mk (bQT (by repeat (first | (with_reducible first | exact HB.out | apply bQA | apply bQN | apply bQ1 | refine bQS ?_ GE273.out) | exact HB.out)) hb); clear BK273; clear HB; have BK273 := n0_; have HB := n1_; clear n0_ n1_; (try clear hb); (try clear hb2); (try clear hk); (try clear hi)))
    go_ret
    exact ⟨by first | rfl | (simp [errW_none, errW_some] <;> rfl) | (simp only [← hji6, ← hji8]; first | rfl | (simp [errW_none, errW_some] <;> rfl)) | (simp [*, errW_none, errW_some] <;> rfl), by repeat (first | (with_reducible first | exact HB.out | apply bQA | apply bQN | apply bQ1 | refine bQS ?_ GE273.out) | exact HB.out)⟩
end Go.Proofs.Ytkedpfkdnhameaa.P
