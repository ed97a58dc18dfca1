/- Functions of the program and what they tell, as the printing program wrote it. -/
import Derived.Test.YthjfilmdobkmlaaPx0
import Derived.Test.YthjfilmdobkmlaaPx35
import Derived.Test.YthjfilmdobkmlaaPx36
import Derived.Test.YthjfilmdobkmlaaPx37
import Derived.Test.YthjfilmdobkmlaaPx38
import Derived.Test.YthjfilmdobkmlaaPx39
import Derived.Test.YthjfilmdobkmlaaPx43b
namespace Go.Proofs.Ythjfilmdobkmlaa.P
open Go.Shelf Go.RowKit Go.Proofs.YthjfilmdobkmlaaW.PrintWords Go.Proofs.YthjfilmdobkmlaaW.PrintLast Go.Proofs.YthjfilmdobkmlaaW.PrintMore
attribute [local go_sem] max2_int min2_int max_two min_two max_three min_three max_four min_four
set_option linter.unusedVariables false
set_option linter.unusedSimpArgs false
set_option maxHeartbeats 8000000
set_option maxRecDepth 100000
noncomputable def laws_FnExactSendThrough.G2 : (G0_ : Prop) ×' (laws_FnExactSendThrough.W G0_ → laws_FnExactSendThrough.G1.1) := by
 constructor
 ·intro hG0_
  intro k a0_0 A0_1 c0_1 l0_1 a1_0 A1_1 c1_1 l1_1 a2_0 A2_1 c2_1 l2_1 r w hu55 hu27 HR0_1 HC0_1 HR1_1 HC1_1 HR2_1 HC2_1 za_0_0 t846 A4 za_0_1 c5b0 t847 A13 za_0_2 c14b0 t848 A25 za_0_3 c26b0 t849 t850 A39 za_0_4 t853 t854 A40 za_0_5 t857 t858 A41 za_0_6 t861 t862 t865 A42 za_0_7 t867 t868 A43 za_0_8 t872 t873 A44 za_0_9 t877 t878 A45 H t882 t883 t886 A46 HC47 za_0_10 gb843 w48 GW843 GE843 gb844 w49 GW844 GE844 NB843_844 NB844_843 gb845 w50 GW845 GE845 NB843_845 NB845_843 NB844_845 NB845_844 hnb51 hnc51 hnb52 hnc52 hcz53_0 hcz53_1 hfz53_0 hfz53_1 w54 hnb55 hnc55 hcz56_0 hcz56_1 hfz56_0 hfz56_1 w57 hcz58_0 hcz58_1 hfz58_0 hfz58_1 w59 za_0_11 za_0_12 HT_ HW_ w60 BK843 BK844 BK845 HB hHeld hJ1_3_5_6_10
  intro hJ1_3_5_6
  refine join_ (σ := Value × Value × Value × Nat) 6 #[true, true, true, true, true, true, false, false, false, false, true, false, false] (fun s_ => [(37, .agg #[.int .i64 t849, s_.1]), (39, .agg #[.int .i64 t853, s_.2.1]), (41, .agg #[.int .i64 t857, s_.2.2.1]), (8, .pointer (some ⟨s_.2.2.2, 0, none⟩))]) (fun s_ w' => (w'.cell? ⟨gb843, 0, none⟩ = some (.int .i64 a0_0) ∧ w'.cell? ⟨gb843, 1, none⟩ = some (.slice A0_1 l0_1.length c0_1) ∧ w'.cell? ⟨gb844, 0, none⟩ = some (.int .i64 a1_0) ∧ w'.cell? ⟨gb844, 1, none⟩ = some (.slice A1_1 l1_1.length c1_1) ∧ w'.cell? ⟨gb845, 0, none⟩ = some (.int .i64 a2_0) ∧ w'.cell? ⟨gb845, 1, none⟩ = some (.slice A2_1 l2_1.length c2_1)) ∧ (Kd.R (Kd.int .i64) 2 w' w.heap.size (fun k_ => some k_ ≠ (s_.2.1 : Value).ownBlock ∧ some k_ ≠ (s_.2.2.1 : Value).ownBlock) s_.1 t850) ∧ (Kd.R (Kd.int .i64) 2 w' w.heap.size (fun k_ => some k_ ≠ (s_.1 : Value).ownBlock ∧ some k_ ≠ (s_.2.2.1 : Value).ownBlock) s_.2.1 t854) ∧ (Kd.R (Kd.int .i64) 2 w' w.heap.size (fun k_ => some k_ ≠ (s_.1 : Value).ownBlock ∧ some k_ ≠ (s_.2.1 : Value).ownBlock) s_.2.2.1 t858) ∧ (w'.heap[gb843]? = some (.cells #[.int .i64 a0_0, .slice A0_1 l0_1.length c0_1] 55 (0, 0))) ∧ (w'.heap[gb844]? = some (.cells #[.int .i64 a1_0, .slice A1_1 l1_1.length c1_1] 55 (0, 0))) ∧ (w'.heap[gb845]? = some (.cells #[.int .i64 a2_0, .slice A2_1 l2_1.length c2_1] 55 (0, 0))) ∧ (w'.heap[s_.2.2.2]? = some (.cells #[.int .i64 0, .slice none 0 0] 27 (0, 0))) ∧ (w.heap.size ≤ s_.2.2.2) ∧ (w.heap.size ≤ s_.2.2.2) ∧ (gb843 ≠ s_.2.2.2) ∧ (s_.2.2.2 ≠ gb843) ∧ (gb844 ≠ s_.2.2.2) ∧ (s_.2.2.2 ≠ gb844) ∧ (gb845 ≠ s_.2.2.2) ∧ (s_.2.2.2 ≠ gb845) ∧ (Below w.heap.size w w')) ?_ ?_
  rotate_left
  ·revert k a0_0 A0_1 c0_1 l0_1 a1_0 A1_1 c1_1 l1_1 a2_0 A2_1 c2_1 l2_1 r w hu55 hu27 HR0_1 HC0_1 HR1_1 HC1_1 HR2_1 HC2_1 za_0_0 t846 A4 za_0_1 c5b0 t847 A13 za_0_2 c14b0 t848 A25 za_0_3 c26b0 t849 t850 A39 za_0_4 t853 t854 A40 za_0_5 t857 t858 A41 za_0_6 t861 t862 t865 A42 za_0_7 t867 t868 A43 za_0_8 t872 t873 A44 za_0_9 t877 t878 A45 H t882 t883 t886 A46 HC47 za_0_10 gb843 w48 GW843 GE843 gb844 w49 GW844 GE844 NB843_844 NB844_843 gb845 w50 GW845 GE845 NB843_845 NB845_843 NB844_845 NB845_844 hnb51 hnc51 hnb52 hnc52 hcz53_0 hcz53_1 hfz53_0 hfz53_1 w54 hnb55 hnc55 hcz56_0 hcz56_1 hfz56_0 hfz56_1 w57 hcz58_0 hcz58_1 hfz58_0 hfz58_1 w59 za_0_11 za_0_12 HT_ HW_ w60 BK843 BK844 BK845 HB hHeld hJ1_3_5_6_10 hJ1_3_5_6
   exact hG0_.out
  skip
  rintro ⟨v851, v855, v859, gb866⟩ w65 ⟨hS_, h0_, h1_, h2_, h3_, h4_, h5_, h6_, h7_, h8_, h9_, h10_, h11_, h12_, h13_, h14_, h15_⟩
  have n0_ : Aq (Kd.R (Kd.int .i64) 2 w65 w.heap.size (fun k_ => some k_ ≠ (v855 : Value).ownBlock ∧ some k_ ≠ (v859 : Value).ownBlock) v851 t850) := ⟨h0_⟩
  have n1_ : Aq (Kd.R (Kd.int .i64) 2 w65 w.heap.size (fun k_ => some k_ ≠ (v851 : Value).ownBlock ∧ some k_ ≠ (v859 : Value).ownBlock) v855 t854) := ⟨h1_⟩
  have n2_ : Aq (Kd.R (Kd.int .i64) 2 w65 w.heap.size (fun k_ => some k_ ≠ (v851 : Value).ownBlock ∧ some k_ ≠ (v855 : Value).ownBlock) v859 t858) := ⟨h2_⟩
  have n3_ : Aq (w65.heap[gb843]? = some (.cells #[.int .i64 a0_0, .slice A0_1 l0_1.length c0_1] 55 (0, 0))) := ⟨h3_⟩
  have n4_ : Aq (w65.heap[gb844]? = some (.cells #[.int .i64 a1_0, .slice A1_1 l1_1.length c1_1] 55 (0, 0))) := ⟨h4_⟩
  have n5_ : Aq (w65.heap[gb845]? = some (.cells #[.int .i64 a2_0, .slice A2_1 l2_1.length c2_1] 55 (0, 0))) := ⟨h5_⟩
  have n6_ : Aq (w65.heap[gb866]? = some (.cells #[.int .i64 0, .slice none 0 0] 27 (0, 0))) := ⟨h6_⟩
  have n7_ : Aq (w.heap.size ≤ gb866) := ⟨h7_⟩
  have n8_ : Aq (w.heap.size ≤ gb866) := ⟨h8_⟩
  have n9_ : Aq (gb843 ≠ gb866) := ⟨h9_⟩
  have n10_ : Aq (gb866 ≠ gb843) := ⟨h10_⟩
  have n11_ : Aq (gb844 ≠ gb866) := ⟨h11_⟩
  have n12_ : Aq (gb866 ≠ gb844) := ⟨h12_⟩
  have n13_ : Aq (gb845 ≠ gb866) := ⟨h13_⟩
  have n14_ : Aq (gb866 ≠ gb845) := ⟨h14_⟩
  have n15_ : Aq (Below w.heap.size w w65) := ⟨h15_⟩
  clear BK843
  clear BK844
  clear BK845
  clear HB
  clear h0_ h1_ h2_ h3_ h4_ h5_ h6_ h7_ h8_ h9_ h10_ h11_ h12_ h13_ h14_ h15_
  have HO852 := n0_
  have HO856 := n1_
  have HO860 := n2_
  have BK843 := n3_
  have BK844 := n4_
  have BK845 := n5_
  have BK866 := n6_
  have GW866 := n7_
  have GE866 := n8_
  have NB843_866 := n9_
  have NB866_843 := n10_
  have NB844_866 := n11_
  have NB866_844 := n12_
  have NB845_866 := n13_
  have NB866_845 := n14_
  have HB := n15_
  clear n0_ n1_ n2_ n3_ n4_ n5_ n6_ n7_ n8_ n9_ n10_ n11_ n12_ n13_ n14_ n15_
  have hHeld : w65.cell? ⟨gb843, 0, none⟩ = some (.int .i64 a0_0) ∧ w65.cell? ⟨gb843, 1, none⟩ = some (.slice A0_1 l0_1.length c0_1) ∧ w65.cell? ⟨gb844, 0, none⟩ = some (.int .i64 a1_0) ∧ w65.cell? ⟨gb844, 1, none⟩ = some (.slice A1_1 l1_1.length c1_1) ∧ w65.cell? ⟨gb845, 0, none⟩ = some (.int .i64 a2_0) ∧ w65.cell? ⟨gb845, 1, none⟩ = some (.slice A2_1 l2_1.length c2_1) := hS_
  obtain ⟨Ao66, co66, eo66⟩ := Kd.R_slice HO852.out
  (first | subst eo66 | (injection eo66 with f1_ f2_ f3_; have f4_ := f1_.symm; have f5_ := f3_.symm; clear f1_ f2_ f3_; subst f4_; subst f5_))
  obtain ⟨Ao67, co67, eo67⟩ := Kd.R_slice HO856.out
  (first | subst eo67 | (injection eo67 with f1_ f2_ f3_; have f4_ := f1_.symm; have f5_ := f3_.symm; clear f1_ f2_ f3_; subst f4_; subst f5_))
  obtain ⟨Ao68, co68, eo68⟩ := Kd.R_slice HO860.out
  (first | subst eo68 | (injection eo68 with f1_ f2_ f3_; have f4_ := f1_.symm; have f5_ := f3_.symm; clear f1_ f2_ f3_; subst f4_; subst f5_))
  refine norm_ (a' := ?_) ?_ ?_
  rotate_left
  ·simp only [putAll, Act.put, qSa, qSb, qSc]
   rfl
  refine one_ (i := 6) (N := some 42) (bm 13 1151) rfl rfl (one_of HT_.out (by kernel_rfl)) (by decide) (fun K hK => ?_)
  refine goes_ Try.func32 (by kernel_rfl) rfl #[.agg #[.int .i64 t849, .slice Ao66 t850.length co66], .agg #[.int .i64 t853, .slice Ao67 t854.length co67], .agg #[.int .i64 t857, .slice Ao68 t858.length co68]] (by rfl) rfl rfl tL ?_
  with_reducible refine (spec_SendThrough.calls k t849 _ _ t850 t853 _ _ t854 t857 _ _ t858 t861 t862 t865 _ ?s1 ?s2 ?s3 ?s4 ?s5 ?s6 A42.out).mono ?_
  (case s1 => exact tC ((Kd.R_reads' HO852.out).2.2))
  (case s2 => exact (Kd.R_reads' HO852.out).2.1)
  (case s3 => exact tC ((Kd.R_reads' HO856.out).2.2))
  (case s4 => exact (Kd.R_reads' HO856.out).2.1)
  (case s5 => exact tC ((Kd.R_reads' HO860.out).2.2))
  (case s6 => exact (Kd.R_reads' HO860.out).2.1)
  rintro e w69 ⟨v863, rfl, ho0, hb⟩
  refine ⟨_, rfl, ?_⟩
  have n0_ := Aq.mk (Kd.R_elder' (tR HO852.out) (Kd.R_base ho0) hb)
  have n1_ := Aq.mk (Kd.R_elder' (tR HO856.out) (Kd.R_base ho0) hb)
  have n2_ := Aq.mk (Kd.R_elder' (tR HO860.out) (Kd.R_base ho0) hb)
  have n3_ := Aq.mk (Kd.R_lower (Kd.R_new' (Kd.R_new' (Kd.R_new' ho0 (Kd.R_lt (tR HO852.out))) (Kd.R_lt (tR HO856.out))) (Kd.R_lt (tR HO860.out))) (bQZ tB))
  have n4_ := Aq.mk (tQ BK843.out hb)
  have n5_ := Aq.mk (tQ BK844.out hb)
  have n6_ := Aq.mk (tQ BK845.out hb)
  have n7_ := Aq.mk (tQ BK866.out hb)
  have n8_ := Aq.mk (bQT tB hb)
  clear HO852
  clear HO856
  clear HO860
  clear BK843
  clear BK844
  clear BK845
  clear BK866
  clear HB
  have HO852 := n0_
  have HO856 := n1_
  have HO860 := n2_
  have HO864 := n3_
  have BK843 := n4_
  have BK844 := n5_
  have BK845 := n6_
  have BK866 := n7_
  have HB := n8_
  clear n0_ n1_ n2_ n3_ n4_ n5_ n6_ n7_ n8_
  (try clear hb)
  (try clear hb2)
  (try clear hk)
  (try clear hi)
  (try clear ho0)
  refine hK.out _ _ ⟨(kQC BK843.out 0).trans rfl, (kQC BK843.out 1).trans rfl, (kQC BK844.out 0).trans rfl, (kQC BK844.out 1).trans rfl, (kQC BK845.out 0).trans rfl, (kQC BK845.out 1).trans rfl⟩ (fun hHeld => ?_)
  clear hK K
  refine tN 42 ?_
  refine tP0 7 35 (bm 13 1279) ?_
  refine tP0 8 43 (bm 13 1535) ?_
  refine tP0 9 44 (bm 13 2047) ?_
  exact norm_ (by first | (simp only [putAll, Act.put, qSa, qSb, qSc]; done) | (simp only [putAll, Act.put, qSa, qSb, qSc]; rfl)) (hJ1_3_5_6_10 (.slice Ao66 t850.length co66, .slice Ao67 t854.length co67, .slice Ao68 t858.length co68, v863, gb866) _ ⟨hHeld, (by (with_reducible repeat (first | apply Kd.RqA | apply Kd.RqN | apply Kd.RqD)); exact Kd.R_mono HO852.out (fun _ hk => ⟨hk.1.1, ⟨hk.1.2, hk.2⟩⟩)), (by (with_reducible repeat (first | apply Kd.RqA | apply Kd.RqN | apply Kd.RqD)); exact Kd.R_mono HO856.out (fun _ hk => ⟨hk.1.1, ⟨hk.1.2, hk.2⟩⟩)), (by (with_reducible repeat (first | apply Kd.RqA | apply Kd.RqN | apply Kd.RqD)); exact Kd.R_mono HO860.out (fun _ hk => ⟨hk.1.1, ⟨hk.1.2, hk.2⟩⟩)), (by (with_reducible repeat (first | apply Kd.RqA | apply Kd.RqN | apply Kd.RqD)); exact Kd.R_mono HO864.out (fun _ hk => ⟨hk.1.1.2, ⟨hk.1.2, hk.2⟩⟩)), (tG BK843.out), (tG BK844.out), (tG BK845.out), (tG BK866.out), GW866.out, GE866.out, NB843_866.out, NB866_843.out, NB844_866.out, NB866_844.out, NB845_866.out, NB866_845.out, tB⟩)
end Go.Proofs.Ythjfilmdobkmlaa.P
