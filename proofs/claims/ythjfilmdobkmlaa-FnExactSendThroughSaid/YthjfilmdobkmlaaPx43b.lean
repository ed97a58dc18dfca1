/- Functions of the program and what they tell, as the printing program wrote it. -/
import Derived.Test.YthjfilmdobkmlaaPx0
import Derived.Test.YthjfilmdobkmlaaPx35
import Derived.Test.YthjfilmdobkmlaaPx36
import Derived.Test.YthjfilmdobkmlaaPx37
import Derived.Test.YthjfilmdobkmlaaPx38
import Derived.Test.YthjfilmdobkmlaaPx39
import Derived.Test.YthjfilmdobkmlaaPx43a
namespace Go.Proofs.Ythjfilmdobkmlaa.P
open Go.Shelf Go.RowKit Go.Proofs.YthjfilmdobkmlaaW.PrintWords Go.Proofs.YthjfilmdobkmlaaW.PrintLast Go.Proofs.YthjfilmdobkmlaaW.PrintMore
attribute [local go_sem] max2_int min2_int max_two min_two max_three min_three max_four min_four
set_option linter.unusedVariables false
set_option linter.unusedSimpArgs false
set_option maxHeartbeats 8000000
set_option maxRecDepth 100000
noncomputable def laws_FnExactSendThrough.G1 : (G0_ : Prop) ×' (laws_FnExactSendThrough.W G0_ → laws_FnExactSendThrough.G0.1) := by
 constructor
 ·intro hG0_
  intro k a0_0 A0_1 c0_1 l0_1 a1_0 A1_1 c1_1 l1_1 a2_0 A2_1 c2_1 l2_1 r w hu55 hu27 HR0_1 HC0_1 HR1_1 HC1_1 HR2_1 HC2_1 za_0_0 t846 A4 za_0_1 c5b0 t847 A13 za_0_2 c14b0 t848 A25 za_0_3 c26b0 t849 t850 A39 za_0_4 t853 t854 A40 za_0_5 t857 t858 A41 za_0_6 t861 t862 t865 A42 za_0_7 t867 t868 A43 za_0_8 t872 t873 A44 za_0_9 t877 t878 A45 H t882 t883 t886 A46 HC47 za_0_10 gb843 w48 GW843 GE843 gb844 w49 GW844 GE844 NB843_844 NB844_843 gb845 w50 GW845 GE845 NB843_845 NB845_843 NB844_845 NB845_844 hnb51 hnc51 hnb52 hnc52 hcz53_0 hcz53_1 hfz53_0 hfz53_1 w54 hnb55 hnc55 hcz56_0 hcz56_1 hfz56_0 hfz56_1 w57 hcz58_0 hcz58_1 hfz58_0 hfz58_1 w59 za_0_11 za_0_12 HT_ HW_ w60 BK843 BK844 BK845 HB hHeld
  intro hJ1_3_5_6_10
  refine join_ (σ := Value × Value × Value × Value) 3 #[true, true, true, true, true, true, true, true, true, true, false, false, false] (fun s_ => [(37, .agg #[.int .i64 t849, s_.1]), (39, .agg #[.int .i64 t853, s_.2.1]), (41, .agg #[.int .i64 t857, s_.2.2.1]), (42, .tuple #[.agg #[.int .i64 t861, s_.2.2.2], .int .i64 t865]), (35, .tuple #[.agg #[.int .i64 t861, s_.2.2.2], .int .i64 t865]), (43, .agg #[.int .i64 t861, s_.2.2.2]), (44, .int .i64 t865)]) (fun s_ w' => (w'.cell? ⟨gb843, 0, none⟩ = some (.int .i64 a0_0) ∧ w'.cell? ⟨gb843, 1, none⟩ = some (.slice A0_1 l0_1.length c0_1) ∧ w'.cell? ⟨gb844, 0, none⟩ = some (.int .i64 a1_0) ∧ w'.cell? ⟨gb844, 1, none⟩ = some (.slice A1_1 l1_1.length c1_1) ∧ w'.cell? ⟨gb845, 0, none⟩ = some (.int .i64 a2_0) ∧ w'.cell? ⟨gb845, 1, none⟩ = some (.slice A2_1 l2_1.length c2_1)) ∧ (Kd.R (Kd.int .i64) 2 w' w.heap.size (fun k_ => some k_ ≠ (s_.2.1 : Value).ownBlock ∧ some k_ ≠ (s_.2.2.1 : Value).ownBlock ∧ some k_ ≠ (s_.2.2.2 : Value).ownBlock) s_.1 t850) ∧ (Kd.R (Kd.int .i64) 2 w' w.heap.size (fun k_ => some k_ ≠ (s_.1 : Value).ownBlock ∧ some k_ ≠ (s_.2.2.1 : Value).ownBlock ∧ some k_ ≠ (s_.2.2.2 : Value).ownBlock) s_.2.1 t854) ∧ (Kd.R (Kd.int .i64) 2 w' w.heap.size (fun k_ => some k_ ≠ (s_.1 : Value).ownBlock ∧ some k_ ≠ (s_.2.1 : Value).ownBlock ∧ some k_ ≠ (s_.2.2.2 : Value).ownBlock) s_.2.2.1 t858) ∧ (Kd.R (Kd.int .i64) 2 w' w.heap.size (fun k_ => some k_ ≠ (s_.1 : Value).ownBlock ∧ some k_ ≠ (s_.2.1 : Value).ownBlock ∧ some k_ ≠ (s_.2.2.1 : Value).ownBlock) s_.2.2.2 t862) ∧ (w'.heap[gb843]? = some (.cells #[.int .i64 a0_0, .slice A0_1 l0_1.length c0_1] 55 (0, 0))) ∧ (w'.heap[gb844]? = some (.cells #[.int .i64 a1_0, .slice A1_1 l1_1.length c1_1] 55 (0, 0))) ∧ (w'.heap[gb845]? = some (.cells #[.int .i64 a2_0, .slice A2_1 l2_1.length c2_1] 55 (0, 0))) ∧ (Below w.heap.size w w')) ?_ ?_
  rotate_left
  ·revert k a0_0 A0_1 c0_1 l0_1 a1_0 A1_1 c1_1 l1_1 a2_0 A2_1 c2_1 l2_1 r w hu55 hu27 HR0_1 HC0_1 HR1_1 HC1_1 HR2_1 HC2_1 za_0_0 t846 A4 za_0_1 c5b0 t847 A13 za_0_2 c14b0 t848 A25 za_0_3 c26b0 t849 t850 A39 za_0_4 t853 t854 A40 za_0_5 t857 t858 A41 za_0_6 t861 t862 t865 A42 za_0_7 t867 t868 A43 za_0_8 t872 t873 A44 za_0_9 t877 t878 A45 H t882 t883 t886 A46 HC47 za_0_10 gb843 w48 GW843 GE843 gb844 w49 GW844 GE844 NB843_844 NB844_843 gb845 w50 GW845 GE845 NB843_845 NB845_843 NB844_845 NB845_844 hnb51 hnc51 hnb52 hnc52 hcz53_0 hcz53_1 hfz53_0 hfz53_1 w54 hnb55 hnc55 hcz56_0 hcz56_1 hfz56_0 hfz56_1 w57 hcz58_0 hcz58_1 hfz58_0 hfz58_1 w59 za_0_11 za_0_12 HT_ HW_ w60 BK843 BK844 BK845 HB hHeld hJ1_3_5_6_10
   exact hG0_.out
  skip
  rintro ⟨v851, v855, v859, v863⟩ w68 ⟨hS_, h0_, h1_, h2_, h3_, h4_, h5_, h6_, h7_⟩
  have n0_ : Aq (Kd.R (Kd.int .i64) 2 w68 w.heap.size (fun k_ => some k_ ≠ (v855 : Value).ownBlock ∧ some k_ ≠ (v859 : Value).ownBlock ∧ some k_ ≠ (v863 : Value).ownBlock) v851 t850) := ⟨h0_⟩
  have n1_ : Aq (Kd.R (Kd.int .i64) 2 w68 w.heap.size (fun k_ => some k_ ≠ (v851 : Value).ownBlock ∧ some k_ ≠ (v859 : Value).ownBlock ∧ some k_ ≠ (v863 : Value).ownBlock) v855 t854) := ⟨h1_⟩
  have n2_ : Aq (Kd.R (Kd.int .i64) 2 w68 w.heap.size (fun k_ => some k_ ≠ (v851 : Value).ownBlock ∧ some k_ ≠ (v855 : Value).ownBlock ∧ some k_ ≠ (v863 : Value).ownBlock) v859 t858) := ⟨h2_⟩
  have n3_ : Aq (Kd.R (Kd.int .i64) 2 w68 w.heap.size (fun k_ => some k_ ≠ (v851 : Value).ownBlock ∧ some k_ ≠ (v855 : Value).ownBlock ∧ some k_ ≠ (v859 : Value).ownBlock) v863 t862) := ⟨h3_⟩
  have n4_ : Aq (w68.heap[gb843]? = some (.cells #[.int .i64 a0_0, .slice A0_1 l0_1.length c0_1] 55 (0, 0))) := ⟨h4_⟩
  have n5_ : Aq (w68.heap[gb844]? = some (.cells #[.int .i64 a1_0, .slice A1_1 l1_1.length c1_1] 55 (0, 0))) := ⟨h5_⟩
  have n6_ : Aq (w68.heap[gb845]? = some (.cells #[.int .i64 a2_0, .slice A2_1 l2_1.length c2_1] 55 (0, 0))) := ⟨h6_⟩
  have n7_ : Aq (Below w.heap.size w w68) := ⟨h7_⟩
  clear BK843
  clear BK844
  clear BK845
  clear HB
  clear h0_ h1_ h2_ h3_ h4_ h5_ h6_ h7_
  have HO852 := n0_
  have HO856 := n1_
  have HO860 := n2_
  have HO864 := n3_
  have BK843 := n4_
  have BK844 := n5_
  have BK845 := n6_
  have HB := n7_
  clear n0_ n1_ n2_ n3_ n4_ n5_ n6_ n7_
  have hHeld : w68.cell? ⟨gb843, 0, none⟩ = some (.int .i64 a0_0) ∧ w68.cell? ⟨gb843, 1, none⟩ = some (.slice A0_1 l0_1.length c0_1) ∧ w68.cell? ⟨gb844, 0, none⟩ = some (.int .i64 a1_0) ∧ w68.cell? ⟨gb844, 1, none⟩ = some (.slice A1_1 l1_1.length c1_1) ∧ w68.cell? ⟨gb845, 0, none⟩ = some (.int .i64 a2_0) ∧ w68.cell? ⟨gb845, 1, none⟩ = some (.slice A2_1 l2_1.length c2_1) := hS_
  refine norm_ (a' := ?_) ?_ ?_
  rotate_left
  ·simp only [putAll, Act.put, qSa, qSb, qSc]
   rfl
  refine one_ (i := 10) (N := some 8) (bm 13 2047) rfl rfl (one_of HT_.out (by kernel_rfl)) (by decide) (fun K hK => ?_)
  refine box_step ?hg (N := 8) ?hd (cs := #[.int .i64 0, .slice none 0 0]) (t := 27) ?hr ?_; (case hd => rfl); (case hg => rfl); (case hr => exact tH)
  intro gb866 hg w69 hbox hb
  have n0_ := Aq.mk (Kd.R_below (tR HO852.out) hb)
  have n1_ := Aq.mk (Kd.R_below (tR HO856.out) hb)
  have n2_ := Aq.mk (Kd.R_below (tR HO860.out) hb)
  have n3_ := Aq.mk (Kd.R_below (tR HO864.out) hb)
  have n4_ := Aq.mk (tQ BK843.out hb)
  have n5_ := Aq.mk (tQ BK844.out hb)
  have n6_ := Aq.mk (tQ BK845.out hb)
  have n7_ := Aq.mk (bQT tB hb)
  have n8_ := Aq.mk (hbox)
  have n9_ := Aq.mk (tZ w hg)
  have n10_ := Aq.mk (tZ w hg)
  have n11_ := Aq.mk ((by rw [hg]; exact Nat.ne_of_lt (blk_lt (g := gb843) (o := .cells #[.int .i64 a0_0, .slice A0_1 l0_1.length c0_1] 55 (0, 0)) (tG BK843.out)) : gb843 ≠ gb866))
  have n12_ := Aq.mk ((by rw [hg]; exact Nat.ne_of_gt (blk_lt (g := gb843) (o := .cells #[.int .i64 a0_0, .slice A0_1 l0_1.length c0_1] 55 (0, 0)) (tG BK843.out)) : gb866 ≠ gb843))
  have n13_ := Aq.mk ((by rw [hg]; exact Nat.ne_of_lt (blk_lt (g := gb844) (o := .cells #[.int .i64 a1_0, .slice A1_1 l1_1.length c1_1] 55 (0, 0)) (tG BK844.out)) : gb844 ≠ gb866))
  have n14_ := Aq.mk ((by rw [hg]; exact Nat.ne_of_gt (blk_lt (g := gb844) (o := .cells #[.int .i64 a1_0, .slice A1_1 l1_1.length c1_1] 55 (0, 0)) (tG BK844.out)) : gb866 ≠ gb844))
  have n15_ := Aq.mk ((by rw [hg]; exact Nat.ne_of_lt (blk_lt (g := gb845) (o := .cells #[.int .i64 a2_0, .slice A2_1 l2_1.length c2_1] 55 (0, 0)) (tG BK845.out)) : gb845 ≠ gb866))
  have n16_ := Aq.mk ((by rw [hg]; exact Nat.ne_of_gt (blk_lt (g := gb845) (o := .cells #[.int .i64 a2_0, .slice A2_1 l2_1.length c2_1] 55 (0, 0)) (tG BK845.out)) : gb866 ≠ gb845))
  clear HO852
  clear HO856
  clear HO860
  clear HO864
  clear BK843
  clear BK844
  clear BK845
  clear HB
  have HO852 := n0_
  have HO856 := n1_
  have HO860 := n2_
  have HO864 := n3_
  have BK843 := n4_
  have BK844 := n5_
  have BK845 := n6_
  have HB := n7_
  have BK866 := n8_
  have GW866 := n9_
  have GE866 := n10_
  have NB843_866 := n11_
  have NB866_843 := n12_
  have NB844_866 := n13_
  have NB866_844 := n14_
  have NB845_866 := n15_
  have NB866_845 := n16_
  clear n0_ n1_ n2_ n3_ n4_ n5_ n6_ n7_ n8_ n9_ n10_ n11_ n12_ n13_ n14_ n15_ n16_
  clear hb hbox hg
  refine hK.out _ _ ⟨(kQC BK843.out 0).trans rfl, (kQC BK843.out 1).trans rfl, (kQC BK844.out 0).trans rfl, (kQC BK844.out 1).trans rfl, (kQC BK845.out 0).trans rfl, (kQC BK845.out 1).trans rfl⟩ (fun hHeld => ?_)
  clear hK K
  refine tN 8 ?_
  exact norm_ (by first | (simp only [putAll, Act.put, qSa, qSb, qSc]; done) | (simp only [putAll, Act.put, qSa, qSb, qSc]; rfl)) (hJ1_3_5_6_10 (v851, v855, v859, v863, gb866) _ ⟨hHeld, (tR HO852.out), (tR HO856.out), (tR HO860.out), (tR HO864.out), (tG BK843.out), (tG BK844.out), (tG BK845.out), (tG BK866.out), GW866.out, GE866.out, NB843_866.out, NB866_843.out, NB844_866.out, NB866_844.out, NB845_866.out, NB866_845.out, tB⟩)
end Go.Proofs.Ythjfilmdobkmlaa.P
