/- Functions of the program and what they tell, as the printing program wrote it. -/
import Derived.Test.YtkedpfkdnhameaaPx0
import Derived.Test.YtkedpfkdnhameaaPx1
import Derived.Test.YtkedpfkdnhameaaPx2
import Derived.Test.YtkedpfkdnhameaaPx3
import Derived.Test.YtkedpfkdnhameaaPx4
import Derived.Test.YtkedpfkdnhameaaPx5
import Derived.Test.YtkedpfkdnhameaaPx6
import Derived.Test.YtkedpfkdnhameaaPx7
import Derived.Test.YtkedpfkdnhameaaPx8b
namespace Go.Proofs.Ytkedpfkdnhameaa.P
open Go.Shelf Go.RowKit Go.Proofs.YtkedpfkdnhameaaW.PrintWords Go.Proofs.YtkedpfkdnhameaaW.PrintLast Go.Proofs.YtkedpfkdnhameaaW.PrintMore
attribute [local go_sem] max2_int min2_int max_two min_two max_three min_three max_four min_four
set_option linter.unusedVariables false
set_option linter.unusedSimpArgs false
set_option maxHeartbeats 8000000 in
set_option maxRecDepth 100000 in
noncomputable def laws_FnConjugates.G2 : { G_ : Prop // laws_FnConjugates.W G_ → laws_FnConjugates.G1.1 } := by
 constructor
 intro hG_
 intro k A0 c0 l0 A1 c1 l1 r w hu25 HR0 HC0 HR1 HC1 A3 t271 t272 A5 ji6 hji6 ji8 hji8 hji8_ hji8z hji8u hji8v hji8y hji8x t274 A9 t275 A10 t276 t279 A11 t280 t281 A12 z0_0 nd z0_1 w14 gb273 w15 GW273 GE273 w17 w19 w21 v277 w23 HO278 z1_0 z1_1 wc u34 u35 u36 u37 u38 u39 u40 u41 u42 u43 u44 u45 u46 u47 u48 u49 u50 u51 u52 u53 u54 u55 u56 u57 u58 u59 u60 u61 u62 u63 u64 u65 u66 u67 u68 u69 u70 u71 u72 u73 u74 u75 u76 u77 u78 u79 u80 u81 u82 u83 u84 u85 u86 u87 u88 u89 u90 u91 u92 u93 u94 u95 u96 z1_2 z1_3 z1_4 z1_5 z1_6 z1_7 z1_8 z1_9 z1_10 z1_11 z1_12 z1_13 z1_14 z1_15 z1_16 z1_17 z1_18 z1_19 z1_20 z1_21 z1_22 z1_23 z1_24 z1_25 z1_26 z1_27 z1_28 z1_29 z1_30 z1_31 z1_32 z1_33 z1_34 z1_35 z1_36 z1_37 z1_38 z1_39 z1_40 z1_41 z1_42 z1_43 z1_44 z1_45 z1_46 z1_47 z1_48 z1_49 z1_50 z1_51 z1_52 z1_53 z1_54 u151 u152 u153 u154 u155 u156 u157 u158 u159 u160 u161 u162 u163 u164 u165 u166 u167 u168 u169 u170 u171 u172 u173 u174 u175 u176 u177 u178 u179 u180 u181 u182 u183 u184 u185 u186 u187 u188 u189 u190 u191 u192 u193 u194 u195 u196 u197 u198 u199 u200 u201 u202 u203 u204 u205 u206 u207 u208 u209 u210 u211 u212 u213 u214 u215 u216 u217 u218 u219 u220 u221 u222 u223 u224 u225 u226 u227 u228 u229 u230 u231 u232 u233 u234 u235 u236 u237 u238 u239 u240 u241 u242 u243 u244 u245 u246 u247 u248 u249 u250 u251 u252 u253 u254 u255 HO_9 BK273 HB kj12 HJ12 H' z1_55 z1_56 gk wr u4 u13 u14 u15 u16 u17 u18 u19 u98 u99 u100 u101 u102 u103 u104 u105 u106 u107 u108 u109 u110 u111 u112 u113 u114 u115 u116 u117 u118 u119 u120 u121 u122 u123 u124 u125 u126 u127 u128 u129 u130 u131 u132 u133 u134 u135 u136 u137 u138 u139 u140 u141 u142 u143 u144 u145 u146 u147 u148 u149 u150 hrel z1_57 z1_58 z1_59 z1_60
 clear H'
 try clear c1
 try clear c2
 try clear p2
 try clear q2
 try clear hx2
 try clear qi2
 try clear c3
 try clear c4
 try clear c5
 try clear c6
 try clear p6
 try clear c7
 try clear c7b0
 try clear c7b1
 try clear c8
 try clear c24
 try clear c24b0
 try clear c24b1
 try clear c25
 try clear c25b0
 try clear c25b1
 try clear c26
 try clear c26b0
 try clear c26b1
 try clear c28
 try clear c28b0
 try clear c28b1
 try clear p28
 try clear q28
 try clear hx28
 try clear qi28
 try clear c29
 try clear c29b0
 try clear c29b1
 try clear c31
 try clear c32
 try clear c32b0
 try clear c32b1
 try clear c32b2
 try clear c33
 try clear c33b0
 try clear c33b1
 try clear c41
 try clear hcz16_0
 try clear hcz16_1
 try clear hcz18_0
 try clear hcz18_1
 try clear hcz20_0
 try clear hcz20_1
 try clear hcz22_0
 try clear hcz22_1
 try clear hcz36_0
 try clear hcz36_1
 try clear hcz38_0
 try clear hcz38_1
 try clear hfz16_0
 try clear hfz16_1
 try clear hfz18_0
 try clear hfz18_1
 try clear hfz20_0
 try clear hfz20_1
 try clear hfz22_0
 try clear hfz22_1
 try clear hfz36_0
 try clear hfz36_1
 try clear hfz38_0
 try clear hfz38_1
 try clear hx282_0
 try clear p2
 try clear p28
 try clear p282
 try clear p6
 try clear q2
 try clear q28
 try clear q282
 obtain ⟨x13_2, rfl, HA, HK2, HO_9, BK273, HB⟩ := hrel
 cases gk with
 | zero => exact absurd HA.out (by simp [laws_FnConjugates.l0])
 | succ k2 =>
  have H := HA.out
  clear HA
  simp only [laws_FnConjugates.l0] at H
  by_cases c42 : x13_2 < (t276.length : Int)
  ·rw [if_pos c42] at H
   have c42b0 : decide (x13_2 < (t276.length : Int)) = true := decide_eq_true c42
   clear c42
   by_cases c43 : 0 ≤ x13_2
   ·rw [if_pos c43] at H
    have c43b0 : decide (0 ≤ x13_2) = true := decide_eq_true c43
    clear c43
    replace H := Option.bind_eq_some_iff.mp H
    obtain ⟨⟨t286, t287⟩, A440, H⟩ := H
    replace H : (laws_FnConjugates.l1 k2 ji8 t274 t275 t276 t280 x13_2 t286 t287 0 0 t271 t272) = some r := H
    have A44 := Aq.mk A440
    clear A440
    have H' := Aq.mk H
    clear H
    obtain ⟨Ao45, co45, eo45⟩ := Kd.R_slice HO_9.out
    subst eo45
    try go_wp2
    have n0_ := Aq.mk (Kd.RqD HO_9.out)
    have n1_ := Aq.mk (kQD BK273.out)
    have n2_ := Aq.mk (bQ1 HB.out)
    clear HO_9
    clear BK273
    clear HB
    have HO_9 := n0_
    have BK273 := n1_
    have HB := n2_
    clear n0_ n1_ n2_
    have p285 : 0 ≤ (x13_2 : Int) := of_decide_eq_true (by first | (with_reducible assumption) | assumption)
    have q285 : x13_2 < (t276.length : Int) := of_decide_eq_true (by first | (with_reducible assumption) | assumption)
    obtain ⟨ad285, e285, hx285_0⟩ := Kd.at_int (Kd.R_reads' HO_9.out).2.2 x13_2 p285 q285
    cases e285
    replace p285 := eq_true p285
    replace q285 := eq_true q285
    refine start_ (n := 11) (S := fun w' => w'.cell? ⟨gb273, 0, none⟩ = some (.int .i64 t271) ∧ w'.cell? ⟨gb273, 1, none⟩ = some (.int .i64 t272) ∧ w'.cell? (ad285.add (x13_2).toNat) = some (.int .i64 (rd t276 x13_2))) (ds := []) #[false, false, false, false, false, false, false, false, false, false, false] (by kernel_rfl) rfl rfl ⟨(kQC BK273.out 0).trans rfl, (kQC BK273.out 1).trans rfl, hx285_0⟩ (fun hHeld => ?_); refine with_tabW laws_FnConjugates.tab14 laws_FnConjugates.bits14 (fun HT_ HW_ => ?_)
    generalize wr.drew = w46 at HO_9 BK273 HB hx285_0 hHeld ⊢
    refine pure_ (i := 1) (N := some 106) (v := ?_) (a' := ?_) #[false, true, false, false, false, false, false, false, false, false, false] rfl rfl (any_of HT_.out (by kernel_rfl)) (fun _ _ _ h => h) (Or.inl ⟨by rfl, ?_⟩) ?_ ?_
    rotate_left
    ·intro w'
     go_simp
     with_reducible rfl
    rotate_left
    ·simp only [Act.put, qSa, qSb, qSc, i64_w, i32_w]
     rfl
    refine pure_ (i := 2) (N := some 107) (v := ?_) (a' := ?_) #[false, true, true, false, false, false, false, false, false, false, false] rfl rfl (any_of HT_.out (by kernel_rfl)) (fun _ _ _ h => h) (Or.inl ⟨by rfl, ?_⟩) ?_ ?_
    rotate_left
    ·intro w'
     go_simp
     with_reducible rfl
    rotate_left
    ·simp only [Act.put, qSa, qSb, qSc, i64_w, i32_w]
     rfl
    refine pure_ (i := 3) (N := some 108) (v := ?_) (a' := ?_) #[false, true, true, true, false, false, false, false, false, false, false] rfl rfl (any_of HT_.out (by kernel_rfl)) (fun _ _ _ h => h) (Or.inl ⟨by rfl, ?_⟩) ?_ ?_
    rotate_left
    ·intro w'
     go_simp
     with_reducible rfl
    rotate_left
    ·simp only [Act.put, qSa, qSb, qSc, i64_w, i32_w]
     rfl
    refine take_ (i := 0) (N := some 105) (v := ?_) (a' := ?_) #[true, true, true, true, false, false, false, false, false, false, false] rfl rfl (take_ofW HT_.out HW_.out (by kernel_rfl)) (fun _ _ _ h => h) (Or.inl ⟨by rfl, ?_⟩) hHeld ?_ ?_
    rotate_left
    ·rintro w' ⟨s0, s1, s2⟩
     go_simp
     with_reducible rfl
    rotate_left
    ·simp only [Act.put, qSa, qSb, qSc, i64_w, i32_w]
     rfl
    refine take_ (i := 4) (N := some 109) (v := ?_) (a' := ?_) #[true, true, true, true, true, false, false, false, false, false, false] rfl rfl (take_ofW HT_.out HW_.out (by kernel_rfl)) (fun _ _ _ h => h) (Or.inl ⟨by rfl, ?_⟩) hHeld ?_ ?_
    rotate_left
    ·rintro w' ⟨s0, s1, s2⟩
     go_simp
     with_reducible rfl
    rotate_left
    ·simp only [Act.put, qSa, qSb, qSc, i64_w, i32_w]
     rfl
    refine one_ (i := 5) (N := some 110) #[true, true, true, true, true, true, false, false, false, false, false] rfl rfl (one_of HT_.out (by kernel_rfl)) (by decide) (fun K hK => ?_)
    refine goes_ Try.func8 (by kernel_rfl) rfl #[.agg #[.int .i64 t271, .int .i64 t272], .int .i64 (rd t276 x13_2)] (by rfl) rfl rfl (by (try simp only [List.map_toArray, List.map_cons, List.map_nil]); first | done | rfl | (simp only [List.length_drop, List.length_take]; rfl)) ?_
    with_reducible refine (impl_MinimalPoly.calls k2 t271 t272 (rd t276 x13_2) t286 t287 _ A44.out).mono ?_
    rintro e w47 ⟨rfl, hb⟩
    have HS2_ := (hb.cell (World.block_lt_of_cell? _ _ (hHeld.2.2))).trans (hHeld.2.2)
    refine ⟨_, rfl, ?_⟩
    have n0_ := Aq.mk (Kd.R_below (by (with_reducible repeat (first | apply Kd.RqA | apply Kd.RqN | apply Kd.RqD)); exact HO_9.out) hb)
    have n1_ := Aq.mk (kQB (g := gb273) (o := .cells #[.int .i64 t271, .int .i64 t272] 25 (0, 0)) (by (with_reducible repeat (first | refine kQN ?_ _ | refine kQD ?_ | refine kQA ?_ _)); exact BK273.out) hb)
    have n2_ := Aq.mk (bQT (by repeat (first | (with_reducible first | exact HB.out | apply bQA | apply bQN | apply bQ1 | refine bQS ?_ GE273.out) | exact HB.out)) hb)
    clear HO_9
    clear BK273
    clear HB
    have HO_9 := n0_
    have BK273 := n1_
    have HB := n2_
    clear n0_ n1_ n2_
    (try clear hb)
    (try clear hb2)
    (try clear hk)
    (try clear hi)
    refine hK.out _ _ ⟨(kQC BK273.out 0).trans rfl, (kQC BK273.out 1).trans rfl, HS2_⟩ (fun hHeld => ?_)
    clear hK K
    refine norm_ (a' := ?_) ?_ ?_
    rotate_left
    ·show Act.put _ (some 110) _ = _
     simp only [Act.put, qSa, qSb, qSc, i64_w, i32_w]
     rfl
    refine pure_ (i := 6) (N := some 104) (v := ?_) (a' := ?_) #[true, true, true, true, true, true, true, false, false, false, false] rfl rfl (any_of HT_.out (by kernel_rfl)) (fun _ _ _ h => h) (Or.inl ⟨by rfl, ?_⟩) ?_ ?_
    rotate_left
    ·intro w'
     go_simp
     with_reducible rfl
    rotate_left
    ·simp only [Act.put, qSa, qSb, qSc, i64_w, i32_w]
     rfl
    refine pure_ (i := 7) (N := some 111) (v := ?_) (a' := ?_) #[true, true, true, true, true, true, true, true, false, false, false] rfl rfl (any_of HT_.out (by kernel_rfl)) (fun _ _ _ h => h) (Or.inl ⟨by rfl, ?_⟩) ?_ ?_
    rotate_left
    ·intro w'
     go_simp
     with_reducible rfl
    rotate_left
    ·simp only [Act.put, qSa, qSb, qSc, i64_w, i32_w]
     rfl
    refine pure_ (i := 8) (N := some 112) (v := ?_) (a' := ?_) #[true, true, true, true, true, true, true, true, true, false, false] rfl rfl (any_of HT_.out (by kernel_rfl)) (fun _ _ _ h => h) (Or.inl ⟨by rfl, ?_⟩) ?_ ?_
    rotate_left
    ·intro w'
     go_simp
     with_reducible rfl
    rotate_left
    ·simp only [Act.put, qSa, qSb, qSc, i64_w, i32_w]
     rfl
    refine pure_ (i := 9) (N := some 14) (v := ?_) (a' := ?_) #[true, true, true, true, true, true, true, true, true, true, false] rfl rfl (any_of HT_.out (by kernel_rfl)) (fun _ _ _ h => h) (Or.inl ⟨by rfl, ?_⟩) ?_ ?_
    rotate_left
    ·intro w'
     go_simp
     with_reducible rfl
    rotate_left
    ·simp only [Act.put, qSa, qSb, qSc, i64_w, i32_w]
     rfl
    refine pure_ (i := 10) (N := some 15) (v := ?_) (a' := ?_) #[true, true, true, true, true, true, true, true, true, true, true] rfl rfl (any_of HT_.out (by kernel_rfl)) (fun _ _ _ h => h) (Or.inl ⟨by rfl, ?_⟩) ?_ ?_
    rotate_left
    ·intro w'
     go_simp
     with_reducible rfl
    rotate_left
    ·simp only [Act.put, qSa, qSb, qSc, i64_w, i32_w]
     rfl
    refine done_ (done_of HT_.out (by kernel_rfl)) ?_
    try go_wp2
    go_loopg [16, 17] k2 (fun kq v16 v17 w' => ∃ (x16_3 : Int) (x17_3 : Int), v16 = .int .i64 x16_3 ∧ v17 = .int .i64 x17_3 ∧ Aq (laws_FnConjugates.l1 kq ji8 t274 t275 t276 t280 x13_2 t286 t287 x16_3 x17_3 t271 t272 = some r) ∧ Aq (kq ≤ k2) ∧ Aq (Kd.R (Kd.int .i64) 2 w' w.heap.size (fun _ => True) (.slice (some ad285) t276.length co45) t276) ∧ Aq (w'.heap[gb273]? = some (.cells #[.int .i64 t271, .int .i64 t272] 25 (0, 0))) ∧ Aq (Below w.heap.size w w'))
    case atStart => exact ⟨(0), (0), (by first | rfl | (simp; done) | (simp [*]; done)), (by first | rfl | (simp; done) | (simp [*]; done)), H', ⟨Nat.le_refl _⟩, ⟨by (with_reducible repeat (first | apply Kd.RqA | apply Kd.RqN | apply Kd.RqD)); exact HO_9.out⟩, ⟨by (with_reducible repeat (first | refine kQN ?_ _ | refine kQD ?_ | refine kQA ?_ _)); exact BK273.out⟩, ⟨by repeat (first | (with_reducible first | exact HB.out | apply bQA | apply bQN | apply bQ1 | refine bQS ?_ GE273.out) | exact HB.out)⟩⟩
    case round =>
     clear H'
     try clear c1
     try clear c2
     try clear p2
     try clear q2
     try clear hx2
     try clear qi2
     try clear c3
     try clear c4
     try clear c5
     try clear c6
     try clear p6
     try clear c7
     try clear c7b0
     try clear c7b1
     try clear c8
     try clear c24
     try clear c24b0
     try clear c24b1
     try clear c25
     try clear c25b0
     try clear c25b1
     try clear c26
     try clear c26b0
     try clear c26b1
     try clear c28
     try clear c28b0
     try clear c28b1
     try clear p28
     try clear q28
     try clear hx28
     try clear qi28
     try clear c29
     try clear c29b0
     try clear c29b1
     try clear c31
     try clear c32
     try clear c32b0
     try clear c32b1
     try clear c32b2
     try clear c33
     try clear c33b0
     try clear c33b1
     try clear c41
     try clear c42
     try clear c42b0
     try clear c43
     try clear c43b0
     try clear hcz16_0
     try clear hcz16_1
     try clear hcz18_0
     try clear hcz18_1
     try clear hcz20_0
     try clear hcz20_1
     try clear hcz22_0
     try clear hcz22_1
     try clear hcz36_0
     try clear hcz36_1
     try clear hcz38_0
     try clear hcz38_1
     try clear hfz16_0
     try clear hfz16_1
     try clear hfz18_0
     try clear hfz18_1
     try clear hfz20_0
     try clear hfz20_1
     try clear hfz22_0
     try clear hfz22_1
     try clear hfz36_0
     try clear hfz36_1
     try clear hfz38_0
     try clear hfz38_1
     try clear hx282_0
     try clear hx285_0
     try clear p2
     try clear p28
     try clear p282
     try clear p285
     try clear p6
     try clear q2
     try clear q28
     try clear q282
     try clear q285
     obtain ⟨x16_3, x17_3, rfl, rfl, HA, HK3, HO_9, BK273, HB⟩ := hrel
     cases gk with
     | zero => exact absurd HA.out (by simp [laws_FnConjugates.l1])
     | succ k3 =>
      have H := HA.out
      clear HA
      simp only [laws_FnConjugates.l1] at H
      by_cases c48 : x17_3 ≤ (t276.length : Int)
      ·rw [if_pos c48] at H
       have c48b0 : decide (x17_3 ≤ (t276.length : Int)) = true := decide_eq_true c48
       clear c48
       obtain ⟨ji49, hji49⟩ : ∃ j_ : Int, (IntKind.u64.wrap (x17_3)) = j_ := ⟨_, rfl⟩
       replace H : (if 0 ≤ (ji49) then (if (Go.bits .and .i64 (shr .i64 t280 (ji49)) 1) = 1 then (if 0 ≤ x13_2 then (if x13_2 < (t276.length : Int) then ((impl_PowerIn.f k3 t271 t272 (rd t276 x13_2) x17_3).bind fun bt289 => (if bt289.2 = 0 then (laws_FnConjugates.l1 k3 ji8 t274 t275 t276 t280 x13_2 t286 t287 (Go.bits .xor .i64 x16_3 bt289.1) (wrap64 (x17_3 + 1)) t271 t272) else (some false))) else (none)) else (none)) else (laws_FnConjugates.l1 k3 ji8 t274 t275 t276 t280 x13_2 t286 t287 x16_3 (wrap64 (x17_3 + 1)) t271 t272)) else (none)) = some r := by first | (rw [hji49] at H; exact H) | (simp only [hji49] at H ⊢; exact H)
       by_cases c50 : 0 ≤ (ji49)
       ·rw [if_pos c50] at H
        have c50b0 := eq_true c50
        have c50b1 : decide (0 ≤ (ji49)) = true := decide_eq_true c50
        clear c50
        obtain ⟨ji51, hji51⟩ : ∃ j_ : Int, (shr .i64 t280 (ji49)) = j_ := ⟨_, rfl⟩
        replace H : (if (Go.bits .and .i64 (ji51) 1) = 1 then (if 0 ≤ x13_2 then (if x13_2 < (t276.length : Int) then ((impl_PowerIn.f k3 t271 t272 (rd t276 x13_2) x17_3).bind fun bt289 => (if bt289.2 = 0 then (laws_FnConjugates.l1 k3 ji8 t274 t275 t276 t280 x13_2 t286 t287 (Go.bits .xor .i64 x16_3 bt289.1) (wrap64 (x17_3 + 1)) t271 t272) else (some false))) else (none)) else (none)) else (laws_FnConjugates.l1 k3 ji8 t274 t275 t276 t280 x13_2 t286 t287 x16_3 (wrap64 (x17_3 + 1)) t271 t272)) = some r := by first | (rw [hji51] at H; exact H) | (simp only [hji51] at H ⊢; exact H)
        have hji51_ : (t280 / 2 ^ min (ji49).toNat 64) = ji51 := hji51
        have hji51z : (ji49) ≤ 64 → (t280 / 2 ^ (ji49).toNat) = ji51 := shr_small hji51
        by_cases c52 : (Go.bits .and .i64 (ji51) 1) = 1
        ·rw [if_pos c52] at H
         have c52b0 : ((Go.bits .and .i64 (ji51) 1) == 1) = true := beq_iff_eq.mpr c52
         have c52b1 : ((Go.bits .and .i64 (ji51) 1) != 1) = false := bne_eq_false_iff_eq.mpr c52
         clear c52
         by_cases c53 : 0 ≤ x13_2
         ·rw [if_pos c53] at H
          have c53b0 : decide (0 ≤ x13_2) = true := decide_eq_true c53
          clear c53
          by_cases c54 : x13_2 < (t276.length : Int)
          ·rw [if_pos c54] at H
           have c54b0 : decide (x13_2 < (t276.length : Int)) = true := decide_eq_true c54
           clear c54
           replace H := Option.bind_eq_some_iff.mp H
           obtain ⟨⟨t289, t290⟩, A550, H⟩ := H
           replace H : (if t290 = 0 then (laws_FnConjugates.l1 k3 ji8 t274 t275 t276 t280 x13_2 t286 t287 (Go.bits .xor .i64 x16_3 t289) (wrap64 (x17_3 + 1)) t271 t272) else (some false)) = some r := H
           have A55 := Aq.mk A550
           clear A550
           by_cases c56 : t290 = 0
           ·rw [if_pos c56] at H
            have c56b0 : (t290 == 0) = true := beq_iff_eq.mpr c56
            have c56b1 : (t290 != 0) = false := bne_eq_false_iff_eq.mpr c56
            clear c56
            have H' := Aq.mk H
            clear H
            try go_wp2
            have n0_ := Aq.mk (Kd.RqD HO_9.out)
            have n1_ := Aq.mk (kQD BK273.out)
            have n2_ := Aq.mk (bQ1 HB.out)
            clear HO_9
            clear BK273
            clear HB
            have HO_9 := n0_
            have BK273 := n1_
            have HB := n2_
            clear n0_ n1_ n2_
            have p288 : 0 ≤ (x13_2 : Int) := of_decide_eq_true (by first | (with_reducible assumption) | assumption)
            have q288 : x13_2 < (t276.length : Int) := of_decide_eq_true (by first | (with_reducible assumption) | assumption)
            obtain ⟨ad288, e288, hx288_0⟩ := Kd.at_int (Kd.R_reads' HO_9.out).2.2 x13_2 p288 q288
            obtain rfl : ad285 = ad288 := (by injection e288)
            replace p288 := eq_true p288
            replace q288 := eq_true q288
            refine start_ (n := 12) (S := fun w' => w'.cell? ⟨gb273, 0, none⟩ = some (.int .i64 t271) ∧ w'.cell? ⟨gb273, 1, none⟩ = some (.int .i64 t272) ∧ w'.cell? (ad285.add (x13_2).toNat) = some (.int .i64 (rd t276 x13_2))) (ds := []) #[false, false, false, false, false, false, false, false, false, false, false, false] (by kernel_rfl) rfl rfl ⟨(kQC BK273.out 0).trans rfl, (kQC BK273.out 1).trans rfl, hx288_0⟩ (fun hHeld => ?_); refine with_tabW laws_FnConjugates.tab20 laws_FnConjugates.bits20 (fun HT_ HW_ => ?_)
            generalize wr.drew = w57 at HO_9 BK273 HB hx288_0 hHeld ⊢
            refine pure_ (i := 1) (N := some 127) (v := ?_) (a' := ?_) #[false, true, false, false, false, false, false, false, false, false, false, false] rfl rfl (any_of HT_.out (by kernel_rfl)) (fun _ _ _ h => h) (Or.inl ⟨by rfl, ?_⟩) ?_ ?_
            rotate_left
            ·intro w'
             go_simp
             with_reducible rfl
            rotate_left
            ·simp only [Act.put, qSa, qSb, qSc, i64_w, i32_w]
             rfl
            refine pure_ (i := 2) (N := some 128) (v := ?_) (a' := ?_) #[false, true, true, false, false, false, false, false, false, false, false, false] rfl rfl (any_of HT_.out (by kernel_rfl)) (fun _ _ _ h => h) (Or.inl ⟨by rfl, ?_⟩) ?_ ?_
            rotate_left
            ·intro w'
             go_simp
             with_reducible rfl
            rotate_left
            ·simp only [Act.put, qSa, qSb, qSc, i64_w, i32_w]
             rfl
            refine pure_ (i := 3) (N := some 129) (v := ?_) (a' := ?_) #[false, true, true, true, false, false, false, false, false, false, false, false] rfl rfl (any_of HT_.out (by kernel_rfl)) (fun _ _ _ h => h) (Or.inl ⟨by rfl, ?_⟩) ?_ ?_
            rotate_left
            ·intro w'
             go_simp
             with_reducible rfl
            rotate_left
            ·simp only [Act.put, qSa, qSb, qSc, i64_w, i32_w]
             rfl
            refine pure_ (i := 5) (N := some 131) (v := ?_) (a' := ?_) #[false, true, true, true, false, true, false, false, false, false, false, false] rfl rfl (any_of HT_.out (by kernel_rfl)) (fun _ _ _ h => h) (Or.inl ⟨by rfl, ?_⟩) ?_ ?_
            rotate_left
            ·intro w'
             go_simp
             with_reducible rfl
            rotate_left
            ·simp only [Act.put, qSa, qSb, qSc, i64_w, i32_w]
             rfl
            refine take_ (i := 0) (N := some 126) (v := ?_) (a' := ?_) #[true, true, true, true, false, true, false, false, false, false, false, false] rfl rfl (take_ofW HT_.out HW_.out (by kernel_rfl)) (fun _ _ _ h => h) (Or.inl ⟨by rfl, ?_⟩) hHeld ?_ ?_
            rotate_left
            ·rintro w' ⟨s0, s1, s2⟩
             go_simp
             with_reducible rfl
            rotate_left
            ·simp only [Act.put, qSa, qSb, qSc, i64_w, i32_w]
             rfl
            refine take_ (i := 4) (N := some 130) (v := ?_) (a' := ?_) #[true, true, true, true, true, true, false, false, false, false, false, false] rfl rfl (take_ofW HT_.out HW_.out (by kernel_rfl)) (fun _ _ _ h => h) (Or.inl ⟨by rfl, ?_⟩) hHeld ?_ ?_
            rotate_left
            ·rintro w' ⟨s0, s1, s2⟩
             go_simp
             with_reducible rfl
            rotate_left
            ·simp only [Act.put, qSa, qSb, qSc, i64_w, i32_w]
             rfl
            refine one_ (i := 6) (N := some 132) #[true, true, true, true, true, true, true, false, false, false, false, false] rfl rfl (one_of HT_.out (by kernel_rfl)) (by decide) (fun K hK => ?_)
            refine goes_ Try.func11 (by kernel_rfl) rfl #[.agg #[.int .i64 t271, .int .i64 t272], .int .i64 (rd t276 x13_2), .int .i64 x17_3] (by rfl) rfl rfl (by (try simp only [List.map_toArray, List.map_cons, List.map_nil]); first | done | rfl | (simp only [List.length_drop, List.length_take]; rfl)) ?_
            with_reducible refine (impl_PowerIn.calls k3 t271 t272 (rd t276 x13_2) x17_3 t289 t290 _ A55.out).mono ?_
            rintro e w58 ⟨rfl, hb⟩
            have HS2_ := (hb.cell (World.block_lt_of_cell? _ _ (hHeld.2.2))).trans (hHeld.2.2)
            refine ⟨_, rfl, ?_⟩
            have n0_ := Aq.mk (Kd.R_below (by (with_reducible repeat (first | apply Kd.RqA | apply Kd.RqN | apply Kd.RqD)); exact HO_9.out) hb)
            have n1_ := Aq.mk (kQB (g := gb273) (o := .cells #[.int .i64 t271, .int .i64 t272] 25 (0, 0)) (by (with_reducible repeat (first | refine kQN ?_ _ | refine kQD ?_ | refine kQA ?_ _)); exact BK273.out) hb)
            have n2_ := Aq.mk (bQT (by repeat (first | (with_reducible first | exact HB.out | apply bQA | apply bQN | apply bQ1 | refine bQS ?_ GE273.out) | exact HB.out)) hb)
            clear HO_9
            clear BK273
            clear HB
            have HO_9 := n0_
            have BK273 := n1_
            have HB := n2_
            clear n0_ n1_ n2_
            (try clear hb)
            (try clear hb2)
            (try clear hk)
            (try clear hi)
            refine hK.out _ _ ⟨(kQC BK273.out 0).trans rfl, (kQC BK273.out 1).trans rfl, HS2_⟩ (fun hHeld => ?_)
            clear hK K
            refine norm_ (a' := ?_) ?_ ?_
            rotate_left
            ·show Act.put _ (some 132) _ = _
             simp only [Act.put, qSa, qSb, qSc, i64_w, i32_w]
             rfl
            refine pure_ (i := 7) (N := some 125) (v := ?_) (a' := ?_) #[true, true, true, true, true, true, true, true, false, false, false, false] rfl rfl (any_of HT_.out (by kernel_rfl)) (fun _ _ _ h => h) (Or.inl ⟨by rfl, ?_⟩) ?_ ?_
            rotate_left
            ·intro w'
             go_simp
             with_reducible rfl
            rotate_left
            ·simp only [Act.put, qSa, qSb, qSc, i64_w, i32_w]
             rfl
            refine pure_ (i := 8) (N := some 133) (v := ?_) (a' := ?_) #[true, true, true, true, true, true, true, true, true, false, false, false] rfl rfl (any_of HT_.out (by kernel_rfl)) (fun _ _ _ h => h) (Or.inl ⟨by rfl, ?_⟩) ?_ ?_
            rotate_left
            ·intro w'
             go_simp
             with_reducible rfl
            rotate_left
            ·simp only [Act.put, qSa, qSb, qSc, i64_w, i32_w]
             rfl
            refine pure_ (i := 9) (N := some 134) (v := ?_) (a' := ?_) #[true, true, true, true, true, true, true, true, true, true, false, false] rfl rfl (any_of HT_.out (by kernel_rfl)) (fun _ _ _ h => h) (Or.inl ⟨by rfl, ?_⟩) ?_ ?_
            rotate_left
            ·intro w'
             go_simp
             with_reducible rfl
            rotate_left
            ·simp only [Act.put, qSa, qSb, qSc, i64_w, i32_w]
             rfl
            refine pure_ (i := 10) (N := some 18) (v := ?_) (a' := ?_) #[true, true, true, true, true, true, true, true, true, true, true, false] rfl rfl (any_of HT_.out (by kernel_rfl)) (fun _ _ _ h => h) (Or.inl ⟨by rfl, ?_⟩) ?_ ?_
            rotate_left
            ·intro w'
             go_simp
             with_reducible rfl
            rotate_left
            ·simp only [Act.put, qSa, qSb, qSc, i64_w, i32_w]
             rfl
            refine pure_ (i := 11) (N := some 19) (v := ?_) (a' := ?_) #[true, true, true, true, true, true, true, true, true, true, true, true] rfl rfl (any_of HT_.out (by kernel_rfl)) (fun _ _ _ h => h) (Or.inl ⟨by rfl, ?_⟩) ?_ ?_
            rotate_left
            ·intro w'
             go_simp
             with_reducible rfl
            rotate_left
            ·simp only [Act.put, qSa, qSb, qSc, i64_w, i32_w]
             rfl
            refine done_ (done_of HT_.out (by kernel_rfl)) ?_
            try go_wp2
            go_roundg k3
            case measure => have := HJ12.out; have := HK2.out; have := HK3.out; omega
            case rel => exact ⟨(Go.bits .xor .i64 x16_3 t289), (wrap64 (x17_3 + 1)), (by first | rfl | (simp; done) | (simp [*]; done)), (by first | rfl | (simp; done) | (simp [*]; done)), H', ⟨by have := HJ12.out; have := HK2.out; have := HK3.out; omega⟩, ⟨by (with_reducible repeat (first | apply Kd.RqA | apply Kd.RqN | apply Kd.RqD)); exact HO_9.out⟩, ⟨by (with_reducible repeat (first | refine kQN ?_ _ | refine kQD ?_ | refine kQA ?_ _)); exact BK273.out⟩, ⟨by repeat (first | (with_reducible first | exact HB.out | apply bQA | apply bQN | apply bQ1 | refine bQS ?_ GE273.out) | exact HB.out)⟩⟩
           ·rw [if_neg c56] at H
            have c56b0 : (t290 == 0) = false := beq_eq_false_iff_ne.mpr c56
            have c56b1 : (t290 != 0) = true := bne_iff_ne.mpr c56
            obtain rfl := Option.some.inj H
            try go_wp2
            have n0_ := Aq.mk (Kd.RqD HO_9.out)
            have n1_ := Aq.mk (kQD BK273.out)
            have n2_ := Aq.mk (bQ1 HB.out)
            clear HO_9
            clear BK273
            clear HB
            have HO_9 := n0_
            have BK273 := n1_
            have HB := n2_
            clear n0_ n1_ n2_
            have p288 : 0 ≤ (x13_2 : Int) := of_decide_eq_true (by first | (with_reducible assumption) | assumption)
            have q288 : x13_2 < (t276.length : Int) := of_decide_eq_true (by first | (with_reducible assumption) | assumption)
            obtain ⟨ad288, e288, hx288_0⟩ := Kd.at_int (Kd.R_reads' HO_9.out).2.2 x13_2 p288 q288
            obtain rfl : ad285 = ad288 := (by injection e288)
            replace p288 := eq_true p288
            replace q288 := eq_true q288
            refine start_ (n := 12) (S := fun w' => w'.cell? ⟨gb273, 0, none⟩ = some (.int .i64 t271) ∧ w'.cell? ⟨gb273, 1, none⟩ = some (.int .i64 t272) ∧ w'.cell? (ad285.add (x13_2).toNat) = some (.int .i64 (rd t276 x13_2))) (ds := []) #[false, false, false, false, false, false, false, false, false, false, false, false] (by kernel_rfl) rfl rfl ⟨(kQC BK273.out 0).trans rfl, (kQC BK273.out 1).trans rfl, hx288_0⟩ (fun hHeld => ?_); refine with_tabW laws_FnConjugates.tab20 laws_FnConjugates.bits20 (fun HT_ HW_ => ?_)
            generalize wr.drew = w59 at HO_9 BK273 HB hx288_0 hHeld ⊢
            refine pure_ (i := 1) (N := some 127) (v := ?_) (a' := ?_) #[false, true, false, false, false, false, false, false, false, false, false, false] rfl rfl (any_of HT_.out (by kernel_rfl)) (fun _ _ _ h => h) (Or.inl ⟨by rfl, ?_⟩) ?_ ?_
            rotate_left
            ·intro w'
             go_simp
             with_reducible rfl
            rotate_left
            ·simp only [Act.put, qSa, qSb, qSc, i64_w, i32_w]
             rfl
            refine pure_ (i := 2) (N := some 128) (v := ?_) (a' := ?_) #[false, true, true, false, false, false, false, false, false, false, false, false] rfl rfl (any_of HT_.out (by kernel_rfl)) (fun _ _ _ h => h) (Or.inl ⟨by rfl, ?_⟩) ?_ ?_
            rotate_left
            ·intro w'
             go_simp
             with_reducible rfl
            rotate_left
            ·simp only [Act.put, qSa, qSb, qSc, i64_w, i32_w]
             rfl
            refine pure_ (i := 3) (N := some 129) (v := ?_) (a' := ?_) #[false, true, true, true, false, false, false, false, false, false, false, false] rfl rfl (any_of HT_.out (by kernel_rfl)) (fun _ _ _ h => h) (Or.inl ⟨by rfl, ?_⟩) ?_ ?_
            rotate_left
            ·intro w'
             go_simp
             with_reducible rfl
            rotate_left
            ·simp only [Act.put, qSa, qSb, qSc, i64_w, i32_w]
             rfl
            refine pure_ (i := 5) (N := some 131) (v := ?_) (a' := ?_) #[false, true, true, true, false, true, false, false, false, false, false, false] rfl rfl (any_of HT_.out (by kernel_rfl)) (fun _ _ _ h => h) (Or.inl ⟨by rfl, ?_⟩) ?_ ?_
            rotate_left
            ·intro w'
             go_simp
             with_reducible rfl
            rotate_left
            ·simp only [Act.put, qSa, qSb, qSc, i64_w, i32_w]
             rfl
            refine take_ (i := 0) (N := some 126) (v := ?_) (a' := ?_) #[true, true, true, true, false, true, false, false, false, false, false, false] rfl rfl (take_ofW HT_.out HW_.out (by kernel_rfl)) (fun _ _ _ h => h) (Or.inl ⟨by rfl, ?_⟩) hHeld ?_ ?_
            rotate_left
            ·rintro w' ⟨s0, s1, s2⟩
             go_simp
             with_reducible rfl
            rotate_left
            ·simp only [Act.put, qSa, qSb, qSc, i64_w, i32_w]
             rfl
            refine take_ (i := 4) (N := some 130) (v := ?_) (a' := ?_) #[true, true, true, true, true, true, false, false, false, false, false, false] rfl rfl (take_ofW HT_.out HW_.out (by kernel_rfl)) (fun _ _ _ h => h) (Or.inl ⟨by rfl, ?_⟩) hHeld ?_ ?_
            rotate_left
            ·rintro w' ⟨s0, s1, s2⟩
             go_simp
             with_reducible rfl
            rotate_left
            ·simp only [Act.put, qSa, qSb, qSc, i64_w, i32_w]
             rfl
            refine one_ (i := 6) (N := some 132) #[true, true, true, true, true, true, true, false, false, false, false, false] rfl rfl (one_of HT_.out (by kernel_rfl)) (by decide) (fun K hK => ?_)
            refine goes_ Try.func11 (by kernel_rfl) rfl #[.agg #[.int .i64 t271, .int .i64 t272], .int .i64 (rd t276 x13_2), .int .i64 x17_3] (by rfl) rfl rfl (by (try simp only [List.map_toArray, List.map_cons, List.map_nil]); first | done | rfl | (simp only [List.length_drop, List.length_take]; rfl)) ?_
            with_reducible refine (impl_PowerIn.calls k3 t271 t272 (rd t276 x13_2) x17_3 t289 t290 _ A55.out).mono ?_
            rintro e w60 ⟨rfl, hb⟩
            have HS2_ := (hb.cell (World.block_lt_of_cell? _ _ (hHeld.2.2))).trans (hHeld.2.2)
            refine ⟨_, rfl, ?_⟩
            have n0_ := Aq.mk (Kd.R_below (by (with_reducible repeat (first | apply Kd.RqA | apply Kd.RqN | apply Kd.RqD)); exact HO_9.out) hb)
            have n1_ := Aq.mk (kQB (g := gb273) (o := .cells #[.int .i64 t271, .int .i64 t272] 25 (0, 0)) (by (with_reducible repeat (first | refine kQN ?_ _ | refine kQD ?_ | refine kQA ?_ _)); exact BK273.out) hb)
            have n2_ := Aq.mk (bQT (by repeat (first | (with_reducible first | exact HB.out | apply bQA | apply bQN | apply bQ1 | refine bQS ?_ GE273.out) | exact HB.out)) hb)
            clear HO_9
            clear BK273
            clear HB
            have HO_9 := n0_
            have BK273 := n1_
            have HB := n2_
            clear n0_ n1_ n2_
            (try clear hb)
            (try clear hb2)
            (try clear hk)
            (try clear hi)
            refine hK.out _ _ ⟨(kQC BK273.out 0).trans rfl, (kQC BK273.out 1).trans rfl, HS2_⟩ (fun hHeld => ?_)
            clear hK K
            refine norm_ (a' := ?_) ?_ ?_
            rotate_left
            ·show Act.put _ (some 132) _ = _
             simp only [Act.put, qSa, qSb, qSc, i64_w, i32_w]
             rfl
            refine pure_ (i := 7) (N := some 125) (v := ?_) (a' := ?_) #[true, true, true, true, true, true, true, true, false, false, false, false] rfl rfl (any_of HT_.out (by kernel_rfl)) (fun _ _ _ h => h) (Or.inl ⟨by rfl, ?_⟩) ?_ ?_
            rotate_left
            ·intro w'
             go_simp
             with_reducible rfl
            rotate_left
            ·simp only [Act.put, qSa, qSb, qSc, i64_w, i32_w]
             rfl
            refine pure_ (i := 8) (N := some 133) (v := ?_) (a' := ?_) #[true, true, true, true, true, true, true, true, true, false, false, false] rfl rfl (any_of HT_.out (by kernel_rfl)) (fun _ _ _ h => h) (Or.inl ⟨by rfl, ?_⟩) ?_ ?_
            rotate_left
            ·intro w'
             go_simp
             with_reducible rfl
            rotate_left
            ·simp only [Act.put, qSa, qSb, qSc, i64_w, i32_w]
             rfl
            refine pure_ (i := 9) (N := some 134) (v := ?_) (a' := ?_) #[true, true, true, true, true, true, true, true, true, true, false, false] rfl rfl (any_of HT_.out (by kernel_rfl)) (fun _ _ _ h => h) (Or.inl ⟨by rfl, ?_⟩) ?_ ?_
            rotate_left
            ·intro w'
             go_simp
             with_reducible rfl
            rotate_left
            ·simp only [Act.put, qSa, qSb, qSc, i64_w, i32_w]
             rfl
            refine pure_ (i := 10) (N := some 18) (v := ?_) (a' := ?_) #[true, true, true, true, true, true, true, true, true, true, true, false] rfl rfl (any_of HT_.out (by kernel_rfl)) (fun _ _ _ h => h) (Or.inl ⟨by rfl, ?_⟩) ?_ ?_
            rotate_left
            ·intro w'
             go_simp
             with_reducible rfl
            rotate_left
            ·simp only [Act.put, qSa, qSb, qSc, i64_w, i32_w]
             rfl
            refine pure_ (i := 11) (N := some 19) (v := ?_) (a' := ?_) #[true, true, true, true, true, true, true, true, true, true, true, true] rfl rfl (any_of HT_.out (by kernel_rfl)) (fun _ _ _ h => h) (Or.inl ⟨by rfl, ?_⟩) ?_ ?_
            rotate_left
            ·intro w'
             go_simp
             with_reducible rfl
            rotate_left
            ·simp only [Act.put, qSa, qSb, qSc, i64_w, i32_w]
             rfl
            refine done_ (done_of HT_.out (by kernel_rfl)) ?_
            try go_wp2
            go_ret
            exact ⟨by first | rfl | (simp [errW_none, errW_some] <;> rfl) | (simp only [← hji6, ← hji8, ← hji49, ← hji51]; first | rfl | (simp [errW_none, errW_some] <;> rfl)) | (simp [*, errW_none, errW_some] <;> rfl), by repeat (first | (with_reducible first | exact HB.out | apply bQA | apply bQN | apply bQ1 | refine bQS ?_ GE273.out) | exact HB.out)⟩
          ·rw [if_neg c54] at H
           exact absurd H (by simp)
         ·rw [if_neg c53] at H
          exact absurd H (by simp)
        ·rw [if_neg c52] at H
         have c52b0 : ((Go.bits .and .i64 (ji51) 1) == 1) = false := beq_eq_false_iff_ne.mpr c52
         have c52b1 : ((Go.bits .and .i64 (ji51) 1) != 1) = true := bne_iff_ne.mpr c52
         have H' := Aq.mk H
         clear H
         go_wp2
         go_roundg k3
         case measure => have := HJ12.out; have := HK2.out; have := HK3.out; omega
         case rel => exact ⟨(x16_3), (wrap64 (x17_3 + 1)), (by first | rfl | (simp; done) | (simp [*]; done)), (by first | rfl | (simp; done) | (simp [*]; done)), H', ⟨by have := HJ12.out; have := HK2.out; have := HK3.out; omega⟩, ⟨by (with_reducible repeat (first | apply Kd.RqA | apply Kd.RqN | apply Kd.RqD)); exact HO_9.out⟩, ⟨by (with_reducible repeat (first | refine kQN ?_ _ | refine kQD ?_ | refine kQA ?_ _)); exact BK273.out⟩, ⟨by repeat (first | (with_reducible first | exact HB.out | apply bQA | apply bQN | apply bQ1 | refine bQS ?_ GE273.out) | exact HB.out)⟩⟩
       ·rw [if_neg c50] at H
        exact absurd H (by simp)
      ·rw [if_neg c48] at H
       have c48b0 : decide (x17_3 ≤ (t276.length : Int)) = false := decide_eq_false c48
       clear c48
       by_cases c61 : t287 = 0
       ·rw [if_pos c61] at H
        have c61b0 : (t287 == 0) = true := beq_iff_eq.mpr c61
        have c61b1 : (t287 != 0) = false := bne_eq_false_iff_eq.mpr c61
        clear c61
        by_cases c62 : t286 = t280
        ·rw [if_pos c62] at H
         have c62b0 : (t286 == t280) = true := beq_iff_eq.mpr c62
         have c62b1 : (t286 != t280) = false := bne_eq_false_iff_eq.mpr c62
         clear c62
         by_cases c63 : x16_3 = 0
         ·rw [if_pos c63] at H
          have c63b0 : (x16_3 == 0) = true := beq_iff_eq.mpr c63
          have c63b1 : (x16_3 != 0) = false := bne_eq_false_iff_eq.mpr c63
          clear c63
          have H' := Aq.mk H
          clear H
          go_wp2
          go_roundg k3
          case measure => have := HJ12.out; have := HK2.out; have := HK3.out; omega
          case rel => exact ⟨(wrap64 (x13_2 + 1)), (by first | rfl | (simp; done) | (simp [*]; done)), H', ⟨by have := HJ12.out; have := HK2.out; have := HK3.out; omega⟩, ⟨by (with_reducible repeat (first | apply Kd.RqA | apply Kd.RqN | apply Kd.RqD)); exact HO_9.out⟩, ⟨by (with_reducible repeat (first | refine kQN ?_ _ | refine kQD ?_ | refine kQA ?_ _)); exact BK273.out⟩, ⟨by repeat (first | (with_reducible first | exact HB.out | apply bQA | apply bQN | apply bQ1 | refine bQS ?_ GE273.out) | exact HB.out)⟩⟩
         ·rw [if_neg c63] at H
          have c63b0 : (x16_3 == 0) = false := beq_eq_false_iff_ne.mpr c63
          have c63b1 : (x16_3 != 0) = true := bne_iff_ne.mpr c63
          obtain rfl := Option.some.inj H
          go_wp2
          go_ret
          exact ⟨by first | rfl | (simp [errW_none, errW_some] <;> rfl) | (simp only [← hji6, ← hji8]; first | rfl | (simp [errW_none, errW_some] <;> rfl)) | (simp [*, errW_none, errW_some] <;> rfl), by repeat (first | (with_reducible first | exact HB.out | apply bQA | apply bQN | apply bQ1 | refine bQS ?_ GE273.out) | exact HB.out)⟩
        ·rw [if_neg c62] at H
         have c62b0 : (t286 == t280) = false := beq_eq_false_iff_ne.mpr c62
         have c62b1 : (t286 != t280) = true := bne_iff_ne.mpr c62
         obtain rfl := Option.some.inj H
         go_wp2
         go_ret
         exact ⟨by first | rfl | (simp [errW_none, errW_some] <;> rfl) | (simp only [← hji6, ← hji8]; first | rfl | (simp [errW_none, errW_some] <;> rfl)) | (simp [*, errW_none, errW_some] <;> rfl), by repeat (first | (with_reducible first | exact HB.out | apply bQA | apply bQN | apply bQ1 | refine bQS ?_ GE273.out) | exact HB.out)⟩
       ·rw [if_neg c61] at H
        have c61b0 : (t287 == 0) = false := beq_eq_false_iff_ne.mpr c61
        have c61b1 : (t287 != 0) = true := bne_iff_ne.mpr c61
        obtain rfl := Option.some.inj H
        go_wp2
        go_ret
        exact ⟨by first | rfl | (simp [errW_none, errW_some] <;> rfl) | (simp only [← hji6, ← hji8]; first | rfl | (simp [errW_none, errW_some] <;> rfl)) | (simp [*, errW_none, errW_some] <;> rfl), by repeat (first | (with_reducible first | exact HB.out | apply bQA | apply bQN | apply bQ1 | refine bQS ?_ GE273.out) | exact HB.out)⟩
   ·rw [if_neg c43] at H
    exact absurd H (by simp)
  ·rw [if_neg c42] at H
   have c42b0 : decide (x13_2 < (t276.length : Int)) = false := decide_eq_false c42
   clear c42
   have H' := Aq.mk H
   clear H
   obtain ⟨Ao64, co64, eo64⟩ := Kd.R_slice HO_9.out
   subst eo64
   go_wp2
   go_loopg [20, 21] k2 (fun kq v20 v21 w' => ∃ (x20_3 : Int) (x21_3 : Int), v20 = .int .i64 x20_3 ∧ v21 = .int .i64 x21_3 ∧ Aq (laws_FnConjugates.l2 kq ji8 t274 t275 x20_3 x21_3 t271 t272 = some r) ∧ Aq (kq ≤ k2) ∧ Aq (w'.heap[gb273]? = some (.cells #[.int .i64 t271, .int .i64 t272] 25 (0, 0))) ∧ Aq (Below w.heap.size w w'))
   case atStart => exact ⟨(0), (0), (by first | rfl | (simp; done) | (simp [*]; done)), (by first | rfl | (simp; done) | (simp [*]; done)), H', ⟨Nat.le_refl _⟩, ⟨by (with_reducible repeat (first | refine kQN ?_ _ | refine kQD ?_ | refine kQA ?_ _)); exact BK273.out⟩, ⟨by repeat (first | (with_reducible first | exact HB.out | apply bQA | apply bQN | apply bQ1 | refine bQS ?_ GE273.out) | exact HB.out)⟩⟩
   case round =>
    rename_i z2_0 z2_1 z2_2 z2_3 z2_4 z2_5 z2_6 z2_7 z2_8 z2_9 z2_10 z2_11 z2_12 z2_13 z2_14 z2_15 z2_16 z2_17 z2_18 z2_19 z2_20 z2_21 z2_22 z2_23 z2_24 z2_25 z2_26 z2_27 z2_28 z2_29 z2_30 z2_31 z2_32 z2_33 z2_34 z2_35 z2_36 z2_37 z2_38 z2_39 z2_40 z2_41 z2_42 z2_43 z2_44 z2_45 z2_46 z2_47 z2_48 z2_49 z2_50 z2_51 z2_52 z2_53 z2_54 z2_55 z2_56 z2_57 z2_58 z2_59 z2_60 z2_61 z2_62 z2_63 z2_64 z2_65 z2_66 z2_67 z2_68 z2_69 z2_70 z2_71 z2_72 z2_73 z2_74
    revert k A0 c0 l0 A1 c1 l1 r w hu25 HR0 HC0 HR1 HC1 A3 t271 t272 A5 ji6 hji6 ji8 hji8 hji8_ hji8z hji8u hji8v hji8y hji8x t274 A9 t275 A10 t276 t279 A11 t280 t281 A12 z0_0 nd z0_1 w14 gb273 w15 GW273 GE273 w17 w19 w21 w23 z1_0 z1_1 wc u34 u35 u36 u37 u38 u39 u40 u41 u42 u43 u44 u45 u46 u47 u48 u49 u50 u51 u52 u53 u54 u55 u56 u57 u58 u59 u60 u61 u62 u63 u64 u65 u66 u67 u68 u69 u70 u71 u72 u73 u74 u75 u76 u77 u78 u79 u80 u81 u82 u83 u84 u85 u86 u87 u88 u89 u90 u91 u92 u93 u94 u95 u96 z1_2 z1_3 z1_4 z1_5 z1_6 z1_7 z1_8 z1_9 z1_10 z1_11 z1_12 z1_13 z1_14 z1_15 z1_16 z1_17 z1_18 z1_19 z1_20 z1_21 z1_22 z1_23 z1_24 z1_25 z1_26 z1_27 z1_28 z1_29 z1_30 z1_31 z1_32 z1_33 z1_34 z1_35 z1_36 z1_37 z1_38 z1_39 z1_40 z1_41 z1_42 z1_43 z1_44 z1_45 z1_46 z1_47 z1_48 z1_49 z1_50 z1_51 z1_52 z1_53 z1_54 z2_0 z2_1 z2_2 z2_3 z2_4 z2_5 z2_6 z2_7 z2_8 z2_9 z2_10 z2_11 z2_12 z2_13 z2_14 z2_15 z2_16 z2_17 z2_18 z2_19 z2_20 z2_21 z2_22 z2_23 z2_24 z2_25 z2_26 z2_27 z2_28 z2_29 z2_30 z2_31 z2_32 z2_33 z2_34 z2_35 z2_36 z2_37 z2_38 z2_39 z2_40 z2_41 z2_42 z2_43 z2_44 z2_45 z2_46 z2_47 z2_48 z2_49 z2_50 z2_51 z2_52 z2_53 z2_54 z2_55 z2_56 z2_57 z2_58 z2_59 z2_60 z2_61 u213 u214 u215 u216 u217 u218 u219 u220 u221 u222 u223 u224 u225 u226 u227 u228 u229 u230 u231 u232 u233 u234 u235 u236 u237 u238 u239 u240 u241 u242 u243 u244 u245 u246 u247 u248 u249 u250 u251 u252 u253 u254 u255 z2_62 z2_63 kj12 HJ12 z1_55 z2_64 z2_65 u14 u15 u16 u17 u18 u19 u98 u99 u100 u101 u102 u103 u104 u105 u106 u107 u108 u109 u110 u111 u112 u113 u114 u115 u116 u117 u118 u119 u120 u121 u122 u123 u124 u125 u126 u127 u128 u129 u130 u131 u132 u133 u134 u135 u136 u137 u138 u139 u140 u141 u142 u143 u144 u145 u146 u147 u148 u149 u150 z1_57 z1_58 x13_2 BK273 HB k2 z1_60 HK2 c42b0 H' Ao64 co64 HO278 z2_66 z1_59 HO_9 z2_67 z2_68 z2_69 z2_70 gk wr u4 u20 u21 u22 u23 u24 u25 u26 u27 u151 u152 u153 u154 u155 u156 u157 u158 u159 u160 u161 u162 u163 u164 u165 u166 u167 u168 u169 u170 u171 u172 u173 u174 u175 u176 u177 u178 u179 u180 u181 u182 u183 u184 u185 u186 u187 u188 u189 u190 u191 u192 u193 u194 u195 u196 u197 u198 u199 u200 u201 u202 u203 u204 u205 u206 u207 u208 u209 u210 u211 u212 hrel z2_71 z2_72 z2_73 z2_74
    exact hG_.out
end Go.Proofs.Ytkedpfkdnhameaa.P
