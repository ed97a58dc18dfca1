/- Functions of the program and what they tell, as the printing program wrote it. -/
import Derived.Test.YtkedpfkdnhameaaPx0
import Derived.Test.YtkedpfkdnhameaaPx1
import Derived.Test.YtkedpfkdnhameaaPx2
import Derived.Test.YtkedpfkdnhameaaPx3
import Derived.Test.YtkedpfkdnhameaaPx4
import Derived.Test.YtkedpfkdnhameaaPx5
import Derived.Test.YtkedpfkdnhameaaPx6
import Derived.Test.YtkedpfkdnhameaaPx7
import Derived.Test.YtkedpfkdnhameaaPx8e
namespace Go.Proofs.Ytkedpfkdnhameaa.P
open Go.Shelf Go.RowKit Go.Proofs.YtkedpfkdnhameaaW.PrintWords Go.Proofs.YtkedpfkdnhameaaW.PrintLast Go.Proofs.YtkedpfkdnhameaaW.PrintMore
attribute [local go_sem] max2_int min2_int max_two min_two max_three min_three max_four min_four
set_option linter.unusedVariables false
set_option linter.unusedSimpArgs false
set_option maxHeartbeats 8000000 in
set_option maxRecDepth 100000 in
theorem laws_FnConjugates.rest : laws_FnConjugates.G4.1 := by
 intro k A0 c0 l0 A1 c1 l1 r w hu25 HR0 HC0 HR1 HC1 A3 t271 t272 A5 ji6 hji6 ji8 hji8 hji8_ hji8z hji8u hji8v hji8y hji8x t274 A9 t275 A10 t276 t279 A11 t280 t281 A12 z0_0 nd z0_1 w14 gb273 w15 GW273 GE273 w17 w19 w21 w23 z1_0 z1_1 z3_0 u34 u35 u36 u37 u38 u39 u40 u41 u42 u43 u44 u45 u46 u47 u48 u49 u50 u51 u52 u53 u54 u55 u56 u57 u58 u59 u60 u61 u62 u63 u64 u65 u66 u67 u68 u69 u70 u71 u72 u73 u74 u75 u76 u77 u78 u79 u80 u81 u82 u83 u84 u85 u86 u87 u88 u89 u90 u91 u92 u93 u94 u95 u96 z1_2 z1_3 z1_4 z1_5 z1_6 z1_7 z1_8 z1_9 z1_10 z1_11 z1_12 z1_13 z1_14 z1_15 z1_16 z1_17 z1_18 z1_19 z1_20 z1_21 z1_22 z1_23 z1_24 z1_25 z1_26 z1_27 z1_28 z1_29 z1_30 z1_31 z1_32 z1_33 z1_34 z1_35 z1_36 z1_37 z1_38 z1_39 z1_40 z1_41 z1_42 z1_43 z1_44 z1_45 z1_46 z1_47 z1_48 z1_49 z1_50 z1_51 z1_52 z1_53 z1_54 z2_0 z2_1 z2_2 z2_3 z2_4 z2_5 z2_6 z2_7 z2_8 z2_9 z2_10 z2_11 z2_12 z2_13 z2_14 z2_15 z2_16 z2_17 z2_18 z2_19 z2_20 z2_21 z2_22 z2_23 z2_24 z2_25 z2_26 z2_27 z2_28 z2_29 z2_30 z2_31 z2_32 z2_33 z2_34 z2_35 z2_36 z2_37 z2_38 z2_39 z2_40 z2_41 z2_42 z2_43 z2_44 z2_45 z2_46 z2_47 z2_48 z2_49 z2_50 z2_51 z2_52 z2_53 z2_54 z2_55 z2_56 z2_57 z2_58 z2_59 z2_60 z2_61 u213 u214 u215 u216 u217 u218 u219 u220 u221 u222 u223 u224 u225 u226 u227 u228 u229 u230 u231 u232 u233 u234 u235 u236 u237 u238 u239 u240 u241 u242 u243 u244 u245 u246 u247 u248 u249 u250 u251 u252 u253 u254 u255 z2_62 z2_63 kj12 HJ12 z1_55 z2_64 z2_65 u14 u15 u16 u17 u18 u19 u98 u99 u100 u101 u102 u103 u104 u105 u106 u107 u108 u109 u110 u111 u112 u113 u114 u115 u116 u117 u118 u119 u120 u121 u122 u123 u124 u125 u126 u127 u128 u129 u130 u131 u132 u133 u134 u135 u136 u137 u138 u139 u140 u141 u142 u143 u144 u145 u146 u147 u148 u149 u150 z1_57 z1_58 x13_2 z3_1 z3_2 k2 z1_60 HK2 Ao64 co64 HO278 z2_66 z1_59 HO_9 z2_67 z2_68 z2_69 z2_70 wr u4 u22 u23 u24 u25 u26 u27 z3_3 z3_4 z3_5 z3_6 z3_7 z3_8 z3_9 z3_10 z3_11 z3_12 z3_13 z3_14 z3_15 z3_16 z3_17 z3_18 z3_19 z3_20 z3_21 z3_22 z3_23 z3_24 z3_25 z3_26 z3_27 z3_28 z3_29 z3_30 z3_31 z3_32 z3_33 z3_34 z3_35 z3_36 z3_37 z3_38 z3_39 z3_40 z3_41 z3_42 z3_43 z3_44 z3_45 z3_46 z3_47 z3_48 z3_49 z3_50 z3_51 z3_52 z3_53 z3_54 z3_55 z3_56 z3_57 z3_58 z3_59 z3_60 z3_61 z3_62 z3_63 z3_64 z2_71 z2_72 z2_73 x20_3 x21_3 k3 z2_74 HK3 t297 t298 A66 t299 t300 A67 z3_65 z3_66 w70 w72 z4_0 z4_1 z4_2 z4_3 z4_4 z4_5 z4_6 z4_7 z4_8 z4_9 z4_10 z4_11 z4_12 z4_13 z4_14 z4_15 z4_16 z4_17 z4_18 z4_19 z4_20 z4_21 z4_22 z4_23 z4_24 z4_25 z4_26 z4_27 z4_28 z4_29 z4_30 z4_31 z4_32 z4_33 z4_34 z4_35 z4_36 z4_37 z4_38 z4_39 z4_40 z4_41 z4_42 z4_43 z4_44 z4_45 z4_46 z4_47 z4_48 z4_49 z4_50 z4_51 z4_52 z4_53 z4_54 z4_55 z4_56 z4_57 z4_58 z4_59 z4_60 z4_61 z4_62 z4_63 BK273 HB kj67 HJ67 c77b0 c77b1 HC78 z4_64 z4_65 z4_66 z4_67 wc u151 u152 u153 u154 u155 u156 u157 u158 u159 u160 u161 u162 u163 u164 u165 u166 u167 u168 u169 u170 u171 u172 u173 u174 u175 u176 u177 u178 u179 u180 u181 u182 u183 u184 u185 u186 u187 u188 u189 u190 u191 u192 u193 u194 u195 u196 u197 u198 u199 u200 u201 u202 u203 u204 u205 u206 u207 u208 u209 u210 u211 u212 hcut
 clear HC78
 try clear c1
 try clear c2
 try clear p2
 try clear q2
 try clear hx2
 try clear qi2
 try clear c3
 try clear c4
 try clear c5
 try clear c6
 try clear p6
 try clear c7
 try clear c7b0
 try clear c7b1
 try clear c8
 try clear c11
 try clear c12
 try clear c13
 try clear c24
 try clear c24b0
 try clear c24b1
 try clear c25
 try clear c25b0
 try clear c25b1
 try clear c26
 try clear c26b0
 try clear c26b1
 try clear c28
 try clear c28b0
 try clear c28b1
 try clear p28
 try clear q28
 try clear hx28
 try clear qi28
 try clear c29
 try clear c29b0
 try clear c29b1
 try clear c31
 try clear c32
 try clear c32b0
 try clear c32b1
 try clear c32b2
 try clear c33
 try clear c33b0
 try clear c33b1
 try clear c41
 try clear c42
 try clear c42b0
 try clear c43
 try clear c43b0
 try clear c48
 try clear c48b0
 try clear c50
 try clear c50b0
 try clear c50b1
 try clear c52
 try clear c52b0
 try clear c52b1
 try clear c53
 try clear c53b0
 try clear c54
 try clear c54b0
 try clear c56
 try clear c56b0
 try clear c56b1
 try clear c61
 try clear c61b0
 try clear c61b1
 try clear c62
 try clear c62b0
 try clear c62b1
 try clear c63
 try clear c63b0
 try clear c63b1
 try clear p64
 try clear c65
 try clear c65b0
 try clear c73
 try clear c73b0
 try clear c73b1
 try clear c74
 try clear c74b0
 try clear c74b1
 try clear c75
 try clear c75b0
 try clear c75b1
 try clear c76
 try clear c77
 try clear c77b0
 try clear c77b1
 try clear c79
 try clear c79b0
 try clear hcz16_0
 try clear hcz16_1
 try clear hcz18_0
 try clear hcz18_1
 try clear hcz20_0
 try clear hcz20_1
 try clear hcz22_0
 try clear hcz22_1
 try clear hcz36_0
 try clear hcz36_1
 try clear hcz38_0
 try clear hcz38_1
 try clear hcz69_0
 try clear hcz69_1
 try clear hcz71_0
 try clear hcz71_1
 try clear hfz16_0
 try clear hfz16_1
 try clear hfz18_0
 try clear hfz18_1
 try clear hfz20_0
 try clear hfz20_1
 try clear hfz22_0
 try clear hfz22_1
 try clear hfz36_0
 try clear hfz36_1
 try clear hfz38_0
 try clear hfz38_1
 try clear hfz69_0
 try clear hfz69_1
 try clear hfz71_0
 try clear hfz71_1
 try clear hx282_0
 try clear hx285_0
 try clear hx288_0
 try clear p2
 try clear p28
 try clear p282
 try clear p285
 try clear p288
 try clear p6
 try clear p64
 try clear q2
 try clear q28
 try clear q282
 try clear q285
 try clear q288
 obtain ⟨kq, x196_77, rfl, HA, HJ77, BK273, HB⟩ := hcut
 cases kq with
 | zero => exact absurd HA.out (by simp [laws_FnConjugates.j5])
 | succ kj77 =>
  have H := HA.out
  clear HA
  simp only [laws_FnConjugates.j5] at H
  by_cases c80 : x196_77 = true
  ·subst c80
   have H1 : (some false) = some r := by rw [if_pos rfl] at H; exact H
   clear H
   have H := H1
   clear H1
   obtain rfl := Option.some.inj H
   go_wp2
   go_ret
   exact ⟨by first | rfl | (simp [errW_none, errW_some] <;> rfl) | (simp only [← hji6, ← hji8]; first | rfl | (simp [errW_none, errW_some] <;> rfl)) | (simp [*, errW_none, errW_some] <;> rfl), by repeat (first | (with_reducible first | exact HB.out | apply bQA | apply bQN | apply bQ1 | refine bQS ?_ GE273.out) | exact HB.out)⟩
  ·replace c80 := Bool.eq_false_iff.mpr c80
   subst c80
   have H1 : ((impl_MulIn.f kj77 t271 t272 t299 t299).bind fun bt301 => (if bt301.2 = 0 then (if (Go.bits .xor .i64 t299 bt301.1) = x21_3 then (laws_FnConjugates.l2 kj77 ji8 t274 t275 (wrap64 (x20_3 + t297)) (wrap64 (x21_3 + 1)) t271 t272) else (some false)) else (some false))) = some r := by rw [if_neg (show ¬ (false = true) by decide)] at H; exact H
   clear H
   have H := H1
   clear H1
   replace H := Option.bind_eq_some_iff.mp H
   obtain ⟨⟨t301, t302⟩, A810, H⟩ := H
   replace H : (if t302 = 0 then (if (Go.bits .xor .i64 t299 t301) = x21_3 then (laws_FnConjugates.l2 kj77 ji8 t274 t275 (wrap64 (x20_3 + t297)) (wrap64 (x21_3 + 1)) t271 t272) else (some false)) else (some false)) = some r := H
   have A81 := Aq.mk A810
   clear A810
   by_cases c82 : t302 = 0
   ·rw [if_pos c82] at H
    have c82b0 : (t302 == 0) = true := beq_iff_eq.mpr c82
    have c82b1 : (t302 != 0) = false := bne_eq_false_iff_eq.mpr c82
    clear c82
    by_cases c83 : (Go.bits .xor .i64 t299 t301) = x21_3
    ·rw [if_pos c83] at H
     have c83b0 : ((Go.bits .xor .i64 t299 t301) == x21_3) = true := beq_iff_eq.mpr c83
     have c83b1 : ((Go.bits .xor .i64 t299 t301) != x21_3) = false := bne_eq_false_iff_eq.mpr c83
     clear c83
     have H' := Aq.mk H
     clear H
     have hcz84_0 : wc.cell? ⟨gb273, 0, none⟩ = some (.int .i64 t271) := (kQC BK273.out 0).trans rfl
     have hcz84_1 : wc.cell? ⟨gb273, 1, none⟩ = some (.int .i64 t272) := (kQC BK273.out 1).trans rfl
     have hfz84_0 := kQF BK273.out 0
     have hfz84_1 := kQF BK273.out 1
     go_wp2_with (first | ((with_reducible refine gQc (f := 14) rfl ?_); refine goesL_ (some 201) rfl rfl Try.func14 (by kernel_rfl) rfl #[.agg #[.int .i64 t271, .int .i64 t272], .int .i64 t299, .int .i64 t299] rfl (by (try simp only [List.map_toArray, List.map_cons, List.map_nil]); first | done | rfl | (simp only [List.length_drop, List.length_take]; rfl)) ?_; (with_reducible refine (impl_MulIn.calls kj77 t271 t272 t299 t299 t301 t302 _ A81.out).mono ?_); rintro e w85 ⟨rfl, hb⟩; refine ⟨_, rfl, ?_⟩; have n0_ := Aq.mk (kQB (g := gb273) (o := .cells #[.int .i64 t271, .int .i64 t272] 25 (0, 0)) (by (with_reducible repeat (first | refine kQN ?_ _ | refine kQD ?_ | refine kQA ?_ _)); exact BK273.out) hb); have n1_ := Aq.mk (bQT (by repeat (first | (with_reducible first | exact HB.out | apply bQA | apply bQN | apply bQ1 | refine bQS ?_ GE273.out) | exact HB.out)) hb); clear BK273; clear HB; have BK273 := n0_; have HB := n1_; clear n0_ n1_; (try clear hb); (try clear hb2); (try clear hk); (try clear hi)))
     go_roundg kj77
     case measure => have := HJ12.out; have := HK2.out; have := HK3.out; have := HJ67.out; have := HJ77.out; omega
     case rel => exact ⟨((wrap64 (x20_3 + t297))), (wrap64 (x21_3 + 1)), (by first | rfl | (simp; done) | (simp [*]; done)), (by first | rfl | (simp; done) | (simp [*]; done)), H', ⟨by have := HJ12.out; have := HK2.out; have := HK3.out; have := HJ67.out; have := HJ77.out; omega⟩, ⟨by (with_reducible repeat (first | refine kQN ?_ _ | refine kQD ?_ | refine kQA ?_ _)); exact BK273.out⟩, ⟨by repeat (first | (with_reducible first | exact HB.out | apply bQA | apply bQN | apply bQ1 | refine bQS ?_ GE273.out) | exact HB.out)⟩⟩
    ·rw [if_neg c83] at H
     have c83b0 : ((Go.bits .xor .i64 t299 t301) == x21_3) = false := beq_eq_false_iff_ne.mpr c83
     have c83b1 : ((Go.bits .xor .i64 t299 t301) != x21_3) = true := bne_iff_ne.mpr c83
     obtain rfl := Option.some.inj H
     have hcz86_0 : wc.cell? ⟨gb273, 0, none⟩ = some (.int .i64 t271) := (kQC BK273.out 0).trans rfl
     have hcz86_1 : wc.cell? ⟨gb273, 1, none⟩ = some (.int .i64 t272) := (kQC BK273.out 1).trans rfl
     have hfz86_0 := kQF BK273.out 0
     have hfz86_1 := kQF BK273.out 1
     go_wp2_with (first | ((with_reducible refine gQc (f := 14) rfl ?_); refine goesL_ (some 201) rfl rfl Try.func14 (by kernel_rfl) rfl #[.agg #[.int .i64 t271, .int .i64 t272], .int .i64 t299, .int .i64 t299] rfl (by (try simp only [List.map_toArray, List.map_cons, List.map_nil]); first | done | rfl | (simp only [List.length_drop, List.length_take]; rfl)) ?_; (with_reducible refine (impl_MulIn.calls kj77 t271 t272 t299 t299 t301 t302 _ A81.out).mono ?_); rintro e w87 ⟨rfl, hb⟩; refine ⟨_, rfl, ?_⟩; have n0_ := Aq.mk (kQB (g := gb273) (o := .cells #[.int .i64 t271, .int .i64 t272] 25 (0, 0)) (by (with_reducible repeat (first | refine kQN ?_ _ | refine kQD ?_ | refine kQA ?_ _)); exact BK273.out) hb); have n1_ := Aq.mk (bQT (by repeat (first | (with_reducible first | exact HB.out | apply bQA | apply bQN | apply bQ1 | refine bQS ?_ GE273.out) | exact HB.out)) hb); clear BK273; clear HB; have BK273 := n0_; have HB := n1_; clear n0_ n1_; (try clear hb); (try clear hb2); (try clear hk); (try clear hi)))
     go_ret
     exact ⟨by first | rfl | (simp [errW_none, errW_some] <;> rfl) | (simp only [← hji6, ← hji8]; first | rfl | (simp [errW_none, errW_some] <;> rfl)) | (simp [*, errW_none, errW_some] <;> rfl), by repeat (first | (with_reducible first | exact HB.out | apply bQA | apply bQN | apply bQ1 | refine bQS ?_ GE273.out) | exact HB.out)⟩
   ·rw [if_neg c82] at H
    have c82b0 : (t302 == 0) = false := beq_eq_false_iff_ne.mpr c82
    have c82b1 : (t302 != 0) = true := bne_iff_ne.mpr c82
    obtain rfl := Option.some.inj H
    have hcz88_0 : wc.cell? ⟨gb273, 0, none⟩ = some (.int .i64 t271) := (kQC BK273.out 0).trans rfl
    have hcz88_1 : wc.cell? ⟨gb273, 1, none⟩ = some (.int .i64 t272) := (kQC BK273.out 1).trans rfl
    have hfz88_0 := kQF BK273.out 0
    have hfz88_1 := kQF BK273.out 1
    go_wp2_with (first | ((with_reducible refine gQc (f := 14) rfl ?_); refine goesL_ (some 201) rfl rfl Try.func14 (by kernel_rfl) rfl #[.agg #[.int .i64 t271, .int .i64 t272], .int .i64 t299, .int .i64 t299] rfl (by (try simp only [List.map_toArray, List.map_cons, List.map_nil]); first | done | rfl | (simp only [List.length_drop, List.length_take]; rfl)) ?_; (with_reducible refine (impl_MulIn.calls kj77 t271 t272 t299 t299 t301 t302 _ A81.out).mono ?_); rintro e w89 ⟨rfl, hb⟩; refine ⟨_, rfl, ?_⟩; have n0_ := Aq.mk (kQB (g := gb273) (o := .cells #[.int .i64 t271, .int .i64 t272] 25 (0, 0)) (by (with_reducible repeat (first | refine kQN ?_ _ | refine kQD ?_ | refine kQA ?_ _)); exact BK273.out) hb); have n1_ := Aq.mk (bQT (by repeat (first | (with_reducible first | exact HB.out | apply bQA | apply bQN | apply bQ1 | refine bQS ?_ GE273.out) | exact HB.out)) hb); clear BK273; clear HB; have BK273 := n0_; have HB := n1_; clear n0_ n1_; (try clear hb); (try clear hb2); (try clear hk); (try clear hi)))
    go_ret
    exact ⟨by first | rfl | (simp [errW_none, errW_some] <;> rfl) | (simp only [← hji6, ← hji8]; first | rfl | (simp [errW_none, errW_some] <;> rfl)) | (simp [*, errW_none, errW_some] <;> rfl), by repeat (first | (with_reducible first | exact HB.out | apply bQA | apply bQN | apply bQ1 | refine bQS ?_ GE273.out) | exact HB.out)⟩
theorem laws_FnConjugates.calls (k : Nat) (A0 : Option Addr) (c0 : Nat) (l0 : List Int) (A1 : Option Addr) (c1 : Nat) (l1 : List Int) (r : Bool) (w : World) (hr0 : Kd.C (Kd.int .u8) w A0 l0.length l0) (hc0 : l0.length ≤ c0) (hr1 : Kd.C (Kd.int .u8) w A1 l1.length l1) (hc1 : l1.length ≤ c1) (h : laws_FnConjugates.f k l0 l1 = some r) :
 Calls Try.prog 3 #[.slice A0 l0.length c0, .slice A1 l1.length c1] w fun e w' => e = .returned (.bool r) ∧ Below w.heap.size w w' := laws_FnConjugates.G0.2 ⟨laws_FnConjugates.G1.2 ⟨laws_FnConjugates.G2.2 ⟨laws_FnConjugates.G3.2 ⟨laws_FnConjugates.G4.2 ⟨laws_FnConjugates.rest⟩⟩⟩⟩⟩ k A0 c0 l0 A1 c1 l1 r w hr0 hc0 hr1 hc1 h
end Go.Proofs.Ytkedpfkdnhameaa.P
