/- Printed functions. -/
import Derived.Test.YtbaicdgkpnbipaaPx0
import Derived.Test.YtbaicdgkpnbipaaPx8
import Derived.Test.YtbaicdgkpnbipaaPx12
import Derived.Test.YtbaicdgkpnbipaaPx13
namespace Go.Proofs.Ytbaicdgkpnbipaa.P
open Go.Shelf Go.RowKit Go.Proofs.YtbaicdgkpnbipaaW.PrintWords Go.Proofs.YtbaicdgkpnbipaaW.PrintLast Go.Proofs.YtbaicdgkpnbipaaW.PrintMore
attribute [local go_sem] max2_int min2_int max_two min_two max_three min_three max_four min_four
set_option linter.unusedVariables false
set_option linter.unusedSimpArgs false
def qa5.f (k : Nat) (a0_0 : Int) (l0_1 : List Int) (a1_0 : Int) (l1_1 : List Int) : Option (Int × List Int) := (qae.f k a0_0 l0_1).bind fun bt469 => ((qae.f k a1_0 l1_1).bind fun bt473 => ((qay.f k bt469.1 bt469.2 bt473.1 bt473.2).bind fun bt477 => ((qae.f k bt477.1 bt477.2).bind fun bt481 => (some (bt481.1, bt481.2)))))
theorem qa5.mono : ∀ a0 a1 a2 a3 k, LeO (qa5.f k a0 a1 a2 a3) (qa5.f (k + 1) a0 a1 a2 a3) := by
 intro a0 a1 a2 a3 k
 unfold qa5.f
 repeat' first
  | (with_reducible first | exact qae.mono _ _ _ | exact qay.mono _ _ _ _ _ | exact LeO.refl _ | exact LeO.none _ | refine LeO.ite ?_ ?_ | refine LeO.bind ?_ (fun _ => ?_))
  | exact LeO.none _
  | refine LeO.ite ?_ ?_
  | refine LeO.bind ?_ (fun _ => ?_)
set_option maxHeartbeats 8000000 in
set_option maxRecDepth 100000 in
theorem qa5.calls (k : Nat) (a0_0 : Int) (A0_1 : Option Addr) (c0_1 : Nat) (l0_1 : List Int) (a1_0 : Int) (A1_1 : Option Addr) (c1_1 : Nat) (l1_1 : List Int) (r1 : Int) (r2 : List Int) (w : World) (hr0_1 : Kd.C (Kd.int .i64) w A0_1 l0_1.length l0_1) (hc0_1 : l0_1.length ≤ c0_1) (hr1_1 : Kd.C (Kd.int .i64) w A1_1 l1_1.length l1_1) (hc1_1 : l1_1.length ≤ c1_1) (h : qa5.f k a0_0 l0_1 a1_0 l1_1 = some (r1, r2)) :
 Calls Try.prog 72 #[.agg #[.int .i64 a0_0, .slice A0_1 l0_1.length c0_1], .agg #[.int .i64 a1_0, .slice A1_1 l1_1.length c1_1]] w fun e w' => ∃ v1_ : Value, e = .returned (.agg #[.int .i64 r1, v1_]) ∧ Kd.R (Kd.int .i64) 2 w' w.heap.size (fun _ => True) v1_ r2 ∧ Below w.heap.size w w' := by
 have hu26 := Try.underlying26
 have HR0_1 := Aq.mk hr0_1
 have HC0_1 := Aq.mk hc0_1
 clear hr0_1 hc0_1
 have HR1_1 := Aq.mk hr1_1
 have HC1_1 := Aq.mk hc1_1
 clear hr1_1 hc1_1
 have HB := Aq.mk (Below.refl w.heap.size w)
 have H : ((qae.f k a0_0 l0_1).bind fun bt469 => ((qae.f k a1_0 l1_1).bind fun bt473 => ((qay.f k bt469.1 bt469.2 bt473.1 bt473.2).bind fun bt477 => ((qae.f k bt477.1 bt477.2).bind fun bt481 => (some (bt481.1, bt481.2)))))) = some (r1, r2) := h
 clear h
 replace H := Option.bind_eq_some_iff.mp H
 obtain ⟨⟨t469, t470⟩, A30, H⟩ := H
 replace H : ((qae.f k a1_0 l1_1).bind fun bt473 => ((qay.f k t469 t470 bt473.1 bt473.2).bind fun bt477 => ((qae.f k bt477.1 bt477.2).bind fun bt481 => (some (bt481.1, bt481.2))))) = some (r1, r2) := H
 have A3 := Aq.mk A30
 clear A30
 replace H := Option.bind_eq_some_iff.mp H
 obtain ⟨⟨t473, t474⟩, A40, H⟩ := H
 replace H : ((qay.f k t469 t470 t473 t474).bind fun bt477 => ((qae.f k bt477.1 bt477.2).bind fun bt481 => (some (bt481.1, bt481.2)))) = some (r1, r2) := H
 have A4 := Aq.mk A40
 clear A40
 replace H := Option.bind_eq_some_iff.mp H
 obtain ⟨⟨t477, t478⟩, A50, H⟩ := H
 replace H : ((qae.f k t477 t478).bind fun bt481 => (some (bt481.1, bt481.2))) = some (r1, r2) := H
 have A5 := Aq.mk A50
 clear A50
 replace H := Option.bind_eq_some_iff.mp H
 obtain ⟨⟨t481, t482⟩, A60, H⟩ := H
 replace H : (some (t481, t482)) = some (r1, r2) := H
 have A6 := Aq.mk A60
 clear A60
 simp only [Option.some.injEq, Prod.mk.injEq] at H
 obtain ⟨rfl, rfl⟩ := H
 go_enter Try.func72, Try.ntmps72
 try go_wp2_with (first | ((with_reducible refine gQd (N := 2) rfl ?_); refine xQe ?hg (N := 2) ?hd (cs := #[.int .i64 a0_0, .slice A0_1 l0_1.length c0_1]) (t := 26) ?hr ?_; (case hd => rfl); (case hg => rfl); (case hr => first | (go_simp; done) | (go_simp; rfl)); intro gb466 hg w7 hbox hb; have BK466 := Aq.mk (hbox); have GW466 := Aq.mk ((by rw [hg]; exact (bQZ (by repeat (with_reducible first | exact HB.out | apply bQA | apply bQN | apply bQ1))) : w.heap.size ≤ gb466)); have GE466 := Aq.mk ((by rw [hg]; exact (bQZ (by repeat (with_reducible first | exact HB.out | apply bQA | apply bQN | apply bQ1))) : w.heap.size ≤ gb466)); replace HB := Aq.mk (bQT (by repeat (with_reducible first | exact HB.out | apply bQA | apply bQN | apply bQ1)) hb); clear hb hbox hg) | ((with_reducible refine gQd (N := 3) rfl ?_); refine xQe ?hg (N := 3) ?hd (cs := #[.int .i64 a1_0, .slice A1_1 l1_1.length c1_1]) (t := 26) ?hr ?_; (case hd => rfl); (case hg => rfl); (case hr => first | (go_simp; done) | (go_simp; rfl)); intro gb467 hg w8 hbox hb; have BK467 := Aq.mk (hbox); have GW467 := Aq.mk ((by rw [hg]; exact (bQZ (by repeat (with_reducible first | exact HB.out | apply bQA | apply bQN | apply bQ1 | refine bQS ?_ GE466.out))) : w.heap.size ≤ gb467)); have GE467 := Aq.mk ((by rw [hg]; exact (bQZ (by repeat (with_reducible first | exact HB.out | apply bQA | apply bQN | apply bQ1 | refine bQS ?_ GE466.out))) : w.heap.size ≤ gb467)); replace HB := Aq.mk (bQT (by repeat (with_reducible first | exact HB.out | apply bQA | apply bQN | apply bQ1 | refine bQS ?_ GE466.out)) hb); have NB466_467 := Aq.mk ((by rw [hg]; exact Nat.ne_of_lt (qbo (g := gb466) (o := .cells #[.int .i64 a0_0, .slice A0_1 l0_1.length c0_1] 26 (0, 0)) (by (with_reducible repeat (first | refine kQN ?_ _ | refine kQD ?_ | refine kQA ?_ _)); exact BK466.out)) : gb466 ≠ gb467)); have NB467_466 := Aq.mk ((by rw [hg]; exact Nat.ne_of_gt (qbo (g := gb466) (o := .cells #[.int .i64 a0_0, .slice A0_1 l0_1.length c0_1] 26 (0, 0)) (by (with_reducible repeat (first | refine kQN ?_ _ | refine kQD ?_ | refine kQA ?_ _)); exact BK466.out)) : gb467 ≠ gb466)); replace BK466 := Aq.mk (kQB (g := gb466) (o := .cells #[.int .i64 a0_0, .slice A0_1 l0_1.length c0_1] 26 (0, 0)) (by (with_reducible repeat (first | refine kQN ?_ _ | refine kQD ?_ | refine kQA ?_ _)); exact BK466.out) hb); clear hb hbox hg) | ((with_reducible refine gQd (N := 4) rfl ?_); refine xQe ?hg (N := 4) ?hd (cs := #[.int .i64 0, .slice none 0 0]) (t := 26) ?hr ?_; (case hd => rfl); (case hg => rfl); (case hr => first | (go_simp; done) | (go_simp; rfl)); intro gb468 hg w9 hbox hb; have BK468 := Aq.mk (hbox); have GW468 := Aq.mk ((by rw [hg]; exact (bQZ (by repeat (with_reducible first | exact HB.out | apply bQA | apply bQN | apply bQ1 | refine bQS ?_ GE466.out | refine bQS ?_ GE467.out))) : w.heap.size ≤ gb468)); have GE468 := Aq.mk ((by rw [hg]; exact (bQZ (by repeat (with_reducible first | exact HB.out | apply bQA | apply bQN | apply bQ1 | refine bQS ?_ GE466.out | refine bQS ?_ GE467.out))) : w.heap.size ≤ gb468)); replace HB := Aq.mk (bQT (by repeat (with_reducible first | exact HB.out | apply bQA | apply bQN | apply bQ1 | refine bQS ?_ GE466.out | refine bQS ?_ GE467.out)) hb); have NB466_468 := Aq.mk ((by rw [hg]; exact Nat.ne_of_lt (qbo (g := gb466) (o := .cells #[.int .i64 a0_0, .slice A0_1 l0_1.length c0_1] 26 (0, 0)) (by (with_reducible repeat (first | refine kQN ?_ _ | refine kQD ?_ | refine kQA ?_ _)); exact BK466.out)) : gb466 ≠ gb468)); have NB468_466 := Aq.mk ((by rw [hg]; exact Nat.ne_of_gt (qbo (g := gb466) (o := .cells #[.int .i64 a0_0, .slice A0_1 l0_1.length c0_1] 26 (0, 0)) (by (with_reducible repeat (first | refine kQN ?_ _ | refine kQD ?_ | refine kQA ?_ _)); exact BK466.out)) : gb468 ≠ gb466)); replace BK466 := Aq.mk (kQB (g := gb466) (o := .cells #[.int .i64 a0_0, .slice A0_1 l0_1.length c0_1] 26 (0, 0)) (by (with_reducible repeat (first | refine kQN ?_ _ | refine kQD ?_ | refine kQA ?_ _)); exact BK466.out) hb); have NB467_468 := Aq.mk ((by rw [hg]; exact Nat.ne_of_lt (qbo (g := gb467) (o := .cells #[.int .i64 a1_0, .slice A1_1 l1_1.length c1_1] 26 (0, 0)) (by (with_reducible repeat (first | refine kQN ?_ _ | refine kQD ?_ | refine kQA ?_ _)); exact BK467.out)) : gb467 ≠ gb468)); have NB468_467 := Aq.mk ((by rw [hg]; exact Nat.ne_of_gt (qbo (g := gb467) (o := .cells #[.int .i64 a1_0, .slice A1_1 l1_1.length c1_1] 26 (0, 0)) (by (with_reducible repeat (first | refine kQN ?_ _ | refine kQD ?_ | refine kQA ?_ _)); exact BK467.out)) : gb468 ≠ gb467)); replace BK467 := Aq.mk (kQB (g := gb467) (o := .cells #[.int .i64 a1_0, .slice A1_1 l1_1.length c1_1] 26 (0, 0)) (by (with_reducible repeat (first | refine kQN ?_ _ | refine kQD ?_ | refine kQA ?_ _)); exact BK467.out) hb); clear hb hbox hg))
 replace BK466 := Aq.mk (kQD BK466.out)
 replace BK467 := Aq.mk (kQD BK467.out)
 replace BK468 := Aq.mk (kQD BK468.out)
 replace HB := Aq.mk (bQ1 HB.out)
 refine start_ (n := 7) (S := fun w' => w'.cell? ⟨gb466, 0, none⟩ = some (.int .i64 a0_0) ∧ w'.cell? ⟨gb466, 1, none⟩ = some (.slice A0_1 l0_1.length c0_1) ∧ w'.cell? ⟨gb467, 0, none⟩ = some (.int .i64 a1_0) ∧ w'.cell? ⟨gb467, 1, none⟩ = some (.slice A1_1 l1_1.length c1_1)) (ds := []) #[false, false, false, false, false, false, false] (by kernel_rfl) rfl rfl ⟨(kQC BK466.out 0).trans rfl, (kQC BK466.out 1).trans rfl, (kQC BK467.out 0).trans rfl, (kQC BK467.out 1).trans rfl⟩ (fun hHeld => ?_)
 generalize w9.drew = w10 at BK466 BK467 BK468 HB hHeld ⊢
 refine take_ (i := 0) (N := some 5) (v := ?_) (a' := ?_) #[true, false, false, false, false, false, false] rfl rfl (by kernel_rfl) (fun _ _ _ h => h) (Or.inl ⟨by rfl, ?_⟩) hHeld ?_ ?_
 rotate_left
 ·rintro w' ⟨s0, s1, s2, s3⟩
  go_simp
  with_reducible rfl
 rotate_left
 ·simp only [Act.put, qSa, qSb, qSc, qbl, qbn]
  rfl
 refine take_ (i := 2) (N := some 7) (v := ?_) (a' := ?_) #[true, false, true, false, false, false, false] rfl rfl (by kernel_rfl) (fun _ _ _ h => h) (Or.inl ⟨by rfl, ?_⟩) hHeld ?_ ?_
 rotate_left
 ·rintro w' ⟨s0, s1, s2, s3⟩
  go_simp
  with_reducible rfl
 rotate_left
 ·simp only [Act.put, qSa, qSb, qSc, qbl, qbn]
  rfl
 refine one_ (i := 1) (N := some 6) #[true, true, true, false, false, false, false] rfl rfl (by kernel_rfl) (by decide) (fun K hK => ?_)
 refine goes_ Try.func57 (by kernel_rfl) rfl #[.agg #[.int .i64 a0_0, .slice A0_1 l0_1.length c0_1]] (by rfl) rfl rfl (by (try simp only [List.map_toArray, List.map_cons, List.map_nil]); first | done | rfl | (simp only [List.length_drop, List.length_take]; rfl)) ?_
 with_reducible refine (qae.calls k a0_0 _ _ l0_1 t469 t470 _ ?side1 ?side2 A3.out).mono ?_
 (case side1 => repeat (first | exact (Kd.qbt HR0_1.out HB.out) | (with_reducible refine Kd.CqA ?_ _) | (with_reducible refine Kd.CqN ?_ _) | (with_reducible refine Kd.CqD ?_)))
 (case side2 => exact HC0_1.out)
 rintro e w11 ⟨v471, rfl, ho0, hb⟩
 refine ⟨_, rfl, ?_⟩
 have HO472 := Aq.mk (Kd.qbx ho0 (bQZ (by repeat (with_reducible first | exact HB.out | apply bQA | apply bQN | apply bQ1 | refine bQS ?_ GE466.out | refine bQS ?_ GE467.out | refine bQS ?_ GE468.out))))
 replace BK466 := Aq.mk (kQB (by (with_reducible repeat (first | refine kQN ?_ _ | refine kQD ?_ | refine kQA ?_ _)); exact BK466.out) hb)
 replace BK467 := Aq.mk (kQB (by (with_reducible repeat (first | refine kQN ?_ _ | refine kQD ?_ | refine kQA ?_ _)); exact BK467.out) hb)
 replace BK468 := Aq.mk (kQB (by (with_reducible repeat (first | refine kQN ?_ _ | refine kQD ?_ | refine kQA ?_ _)); exact BK468.out) hb)
 replace HB := Aq.mk (bQT (by repeat (with_reducible first | exact HB.out | apply bQA | apply bQN | apply bQ1 | refine bQS ?_ GE466.out | refine bQS ?_ GE467.out | refine bQS ?_ GE468.out)) hb)
 (try clear hb)
 (try clear hb2)
 (try clear hk)
 (try clear hi)
 (try clear ho0)
 refine hK.out _ _ ⟨(kQC BK466.out 0).trans rfl, (kQC BK466.out 1).trans rfl, (kQC BK467.out 0).trans rfl, (kQC BK467.out 1).trans rfl⟩ (fun hHeld => ?_)
 clear hK K
 refine qb0 (a' := ?_) ?_ ?_
 rotate_left
 ·show Act.put _ (some 6) _ = _
  simp only [Act.put, qSa, qSb, qSc, qbl, qbn]
  rfl
 refine one_ (i := 3) (N := some 8) #[true, true, true, true, false, false, false] rfl rfl (by kernel_rfl) (by decide) (fun K hK => ?_)
 refine goes_ Try.func57 (by kernel_rfl) rfl #[.agg #[.int .i64 a1_0, .slice A1_1 l1_1.length c1_1]] (by rfl) rfl rfl (by (try simp only [List.map_toArray, List.map_cons, List.map_nil]); first | done | rfl | (simp only [List.length_drop, List.length_take]; rfl)) ?_
 with_reducible refine (qae.calls k a1_0 _ _ l1_1 t473 t474 _ ?side1 ?side2 A4.out).mono ?_
 (case side1 => repeat (first | exact (Kd.qbt HR1_1.out HB.out) | (with_reducible refine Kd.CqA ?_ _) | (with_reducible refine Kd.CqN ?_ _) | (with_reducible refine Kd.CqD ?_)))
 (case side2 => exact HC1_1.out)
 rintro e w12 ⟨v475, rfl, ho0, hb⟩
 refine ⟨_, rfl, ?_⟩
 have HO476 := Aq.mk (Kd.qbx (Kd.qbu ho0 (Kd.R_lt (by (with_reducible repeat (first | apply rA | apply rN | apply rD)); exact HO472.out))) (bQZ (by repeat (with_reducible first | exact HB.out | apply bQA | apply bQN | apply bQ1 | refine bQS ?_ GE466.out | refine bQS ?_ GE467.out | refine bQS ?_ GE468.out))))
 replace HO472 := Aq.mk (Kd.qbm (by (with_reducible repeat (first | apply rA | apply rN | apply rD)); exact HO472.out) (Kd.qbr ho0) hb)
 replace BK466 := Aq.mk (kQB (by (with_reducible repeat (first | refine kQN ?_ _ | refine kQD ?_ | refine kQA ?_ _)); exact BK466.out) hb)
 replace BK467 := Aq.mk (kQB (by (with_reducible repeat (first | refine kQN ?_ _ | refine kQD ?_ | refine kQA ?_ _)); exact BK467.out) hb)
 replace BK468 := Aq.mk (kQB (by (with_reducible repeat (first | refine kQN ?_ _ | refine kQD ?_ | refine kQA ?_ _)); exact BK468.out) hb)
 replace HB := Aq.mk (bQT (by repeat (with_reducible first | exact HB.out | apply bQA | apply bQN | apply bQ1 | refine bQS ?_ GE466.out | refine bQS ?_ GE467.out | refine bQS ?_ GE468.out)) hb)
 (try clear hb)
 (try clear hb2)
 (try clear hk)
 (try clear hi)
 (try clear ho0)
 obtain ⟨Ao13, co13, eo13⟩ := Kd.qbw HO472.out
 (first | subst eo13 | (injection eo13 with f1_ f2_ f3_; have f4_ := f1_.symm; have f5_ := f3_.symm; clear f1_ f2_ f3_; subst f4_; subst f5_))
 obtain ⟨Ao14, co14, eo14⟩ := Kd.qbw HO476.out
 (first | subst eo14 | (injection eo14 with f1_ f2_ f3_; have f4_ := f1_.symm; have f5_ := f3_.symm; clear f1_ f2_ f3_; subst f4_; subst f5_))
 refine hK.out _ _ ⟨(kQC BK466.out 0).trans rfl, (kQC BK466.out 1).trans rfl, (kQC BK467.out 0).trans rfl, (kQC BK467.out 1).trans rfl⟩ (fun hHeld => ?_)
 clear hK K
 refine qb0 (a' := ?_) ?_ ?_
 rotate_left
 ·show Act.put _ (some 8) _ = _
  simp only [Act.put, qSa, qSb, qSc, qbl, qbn]
  rfl
 refine one_ (i := 4) (N := some 9) #[true, true, true, true, true, false, false] rfl rfl (by kernel_rfl) (by decide) (fun K hK => ?_)
 refine goes_ Try.func71 (by kernel_rfl) rfl #[.agg #[.int .i64 t469, .slice Ao13 t470.length co13], .agg #[.int .i64 t473, .slice Ao14 t474.length co14]] (by rfl) rfl rfl (by (try simp only [List.map_toArray, List.map_cons, List.map_nil]); first | done | rfl | (simp only [List.length_drop, List.length_take]; rfl)) ?_
 with_reducible refine (qay.calls k t469 (fun k_ => some k_ = (.slice Ao13 t470.length co13 : Value).ownBlock) _ _ t470 t473 (fun k_ => some k_ = (.slice Ao14 t474.length co14 : Value).ownBlock) _ _ t474 t477 t478 _ ?side1 ?side2 A5.out).mono ?_
 (case side1 => exact Kd.R_V (Kd.R_tight rfl (Kd.qbq (Kd.qbq (Kd.qbq (HO472.out) BK466.out (by decide)) BK467.out (by decide)) BK468.out (by decide))))
 (case side2 => exact Kd.R_V (Kd.R_tight rfl (Kd.qbq (Kd.qbq (Kd.qbq (HO476.out) BK466.out (by decide)) BK467.out (by decide)) BK468.out (by decide))))
 rintro e w15 ⟨v479, rfl, ho0, hb⟩
 refine ⟨_, rfl, ?_⟩
 have HO480 := Aq.mk (Kd.qbx (Kd.qbu (Kd.qbu (Kd.qbj (ok' := fun k_ => True) ho0 (fun _ hk_ => trivial)) (Kd.R_lt (by (with_reducible repeat (first | apply rA | apply rN | apply rD)); exact HO472.out))) (Kd.R_lt (by (with_reducible repeat (first | apply rA | apply rN | apply rD)); exact HO476.out))) (bQZ (by repeat (with_reducible first | exact HB.out | apply bQA | apply bQN | apply bQ1 | refine bQS ?_ GE466.out | refine bQS ?_ GE467.out | refine bQS ?_ GE468.out))))
 replace HO472 := Aq.mk (Kd.qbm (by (with_reducible repeat (first | apply rA | apply rN | apply rD)); exact HO472.out) (Kd.qbr ho0) hb)
 replace HO476 := Aq.mk (Kd.qbm (by (with_reducible repeat (first | apply rA | apply rN | apply rD)); exact HO476.out) (Kd.qbr ho0) hb)
 replace BK466 := Aq.mk (kQB (by (with_reducible repeat (first | refine kQN ?_ _ | refine kQD ?_ | refine kQA ?_ _)); exact BK466.out) hb)
 replace BK467 := Aq.mk (kQB (by (with_reducible repeat (first | refine kQN ?_ _ | refine kQD ?_ | refine kQA ?_ _)); exact BK467.out) hb)
 replace BK468 := Aq.mk (kQB (by (with_reducible repeat (first | refine kQN ?_ _ | refine kQD ?_ | refine kQA ?_ _)); exact BK468.out) hb)
 replace HB := Aq.mk (bQT (by repeat (with_reducible first | exact HB.out | apply bQA | apply bQN | apply bQ1 | refine bQS ?_ GE466.out | refine bQS ?_ GE467.out | refine bQS ?_ GE468.out)) hb)
 (try clear hb)
 (try clear hb2)
 (try clear hk)
 (try clear hi)
 (try clear ho0)
 obtain ⟨Ao16, co16, eo16⟩ := Kd.qbw HO480.out
 (first | subst eo16 | (injection eo16 with f1_ f2_ f3_; have f4_ := f1_.symm; have f5_ := f3_.symm; clear f1_ f2_ f3_; subst f4_; subst f5_))
 refine hK.out _ _ ⟨(kQC BK466.out 0).trans rfl, (kQC BK466.out 1).trans rfl, (kQC BK467.out 0).trans rfl, (kQC BK467.out 1).trans rfl⟩ (fun hHeld => ?_)
 clear hK K
 refine qb0 (a' := ?_) ?_ ?_
 rotate_left
 ·show Act.put _ (some 9) _ = _
  simp only [Act.put, qSa, qSb, qSc, qbl, qbn]
  rfl
 refine one_ (i := 5) (N := some 10) #[true, true, true, true, true, true, false] rfl rfl (by kernel_rfl) (by decide) (fun K hK => ?_)
 refine goes_ Try.func57 (by kernel_rfl) rfl #[.agg #[.int .i64 t477, .slice Ao16 t478.length co16]] (by rfl) rfl rfl (by (try simp only [List.map_toArray, List.map_cons, List.map_nil]); first | done | rfl | (simp only [List.length_drop, List.length_take]; rfl)) ?_
 with_reducible refine (qae.calls k t477 _ _ t478 t481 t482 _ ?side1 ?side2 A6.out).mono ?_
 (case side1 => repeat (first | exact (Kd.qbi HO480.out).2.2 | (with_reducible refine Kd.CqA ?_ _) | (with_reducible refine Kd.CqN ?_ _) | (with_reducible refine Kd.CqD ?_)))
 (case side2 => exact (Kd.qbi HO480.out).2.1)
 rintro e w17 ⟨v483, rfl, ho0, hb⟩
 refine ⟨_, rfl, ?_⟩
 have HO484 := Aq.mk (Kd.qbx (Kd.qbu (Kd.qbu (Kd.qbu ho0 (Kd.R_lt (by (with_reducible repeat (first | apply rA | apply rN | apply rD)); exact HO472.out))) (Kd.R_lt (by (with_reducible repeat (first | apply rA | apply rN | apply rD)); exact HO476.out))) (Kd.R_lt (by (with_reducible repeat (first | apply rA | apply rN | apply rD)); exact HO480.out))) (bQZ (by repeat (with_reducible first | exact HB.out | apply bQA | apply bQN | apply bQ1 | refine bQS ?_ GE466.out | refine bQS ?_ GE467.out | refine bQS ?_ GE468.out))))
 replace HO472 := Aq.mk (Kd.qbm (by (with_reducible repeat (first | apply rA | apply rN | apply rD)); exact HO472.out) (Kd.qbr ho0) hb)
 replace HO476 := Aq.mk (Kd.qbm (by (with_reducible repeat (first | apply rA | apply rN | apply rD)); exact HO476.out) (Kd.qbr ho0) hb)
 replace HO480 := Aq.mk (Kd.qbm (by (with_reducible repeat (first | apply rA | apply rN | apply rD)); exact HO480.out) (Kd.qbr ho0) hb)
 replace BK466 := Aq.mk (kQB (by (with_reducible repeat (first | refine kQN ?_ _ | refine kQD ?_ | refine kQA ?_ _)); exact BK466.out) hb)
 replace BK467 := Aq.mk (kQB (by (with_reducible repeat (first | refine kQN ?_ _ | refine kQD ?_ | refine kQA ?_ _)); exact BK467.out) hb)
 replace BK468 := Aq.mk (kQB (by (with_reducible repeat (first | refine kQN ?_ _ | refine kQD ?_ | refine kQA ?_ _)); exact BK468.out) hb)
 replace HB := Aq.mk (bQT (by repeat (with_reducible first | exact HB.out | apply bQA | apply bQN | apply bQ1 | refine bQS ?_ GE466.out | refine bQS ?_ GE467.out | refine bQS ?_ GE468.out)) hb)
 (try clear hb)
 (try clear hb2)
 (try clear hk)
 (try clear hi)
 (try clear ho0)
 obtain ⟨Ao19, co19, eo19⟩ := Kd.qbw HO484.out
 (first | subst eo19 | (injection eo19 with f1_ f2_ f3_; have f4_ := f1_.symm; have f5_ := f3_.symm; clear f1_ f2_ f3_; subst f4_; subst f5_))
 refine hK.out _ _ ⟨(kQC BK466.out 0).trans rfl, (kQC BK466.out 1).trans rfl, (kQC BK467.out 0).trans rfl, (kQC BK467.out 1).trans rfl⟩ (fun hHeld => ?_)
 clear hK K
 refine qb0 (a' := ?_) ?_ ?_
 rotate_left
 ·show Act.put _ (some 10) _ = _
  simp only [Act.put, qSa, qSb, qSc, qbl, qbn]
  rfl
 refine one_ (i := 6) (N := none) #[true, true, true, true, true, true, true] rfl rfl (by kernel_rfl) (by decide) (fun K hK => ?_)
 have hs18 : w17.cell? ⟨gb468, 0, none⟩ = some (.int .i64 0) := (kQC BK468.out 0).trans rfl
 have hfs18 := kQF BK468.out 0
 have hns18_0 := NB466_468.out
 have hns18_1 := NB467_468.out
 have hms18_0 := NB468_466.out
 have hms18_1 := NB468_467.out
 have hs20 : w17.cell? ⟨gb468, 1, none⟩ = some (.slice none 0 0) := (kQC BK468.out 1).trans rfl
 have hfs20 := kQF BK468.out 1
 have hns20_0 := NB466_468.out
 have hns20_1 := NB467_468.out
 have hms20_0 := NB468_466.out
 have hms20_1 := NB468_467.out
 refine skip_ (w1 := ?_) (by rfl) rfl ?_ ?_
 rotate_left
 ·go_simp
  rfl
 refine hK.out _ _ ⟨((cell_far (p := ⟨gb468, _, none⟩) NB466_468.out _).trans (((cell_far (p := ⟨gb468, _, none⟩) NB466_468.out _).trans (hHeld.1)))), ((cell_far (p := ⟨gb468, _, none⟩) NB466_468.out _).trans (((cell_far (p := ⟨gb468, _, none⟩) NB466_468.out _).trans (hHeld.2.1)))), ((cell_far (p := ⟨gb468, _, none⟩) NB467_468.out _).trans (((cell_far (p := ⟨gb468, _, none⟩) NB467_468.out _).trans (hHeld.2.2.1)))), ((cell_far (p := ⟨gb468, _, none⟩) NB467_468.out _).trans (((cell_far (p := ⟨gb468, _, none⟩) NB467_468.out _).trans (hHeld.2.2.2))))⟩ (fun hHeld => ?_)
 clear hK K
 refine done_ (by kernel_rfl) ?_
 try go_wp2
 refine bodyPost_ret (results_cell_row rfl _ _ gb468 26 #[.int .i64 t481, .slice Ao19 t482.length co19] (0, 0) _ rfl (by (with_reducible repeat (first | refine kQN ?_ _ | refine kQD ?_ | refine kQA ?_ _)); refine kQP (cs := #[.int .i64 t481, .slice none 0 0]) ?_ 1 _ rfl; (with_reducible repeat (first | refine kQN ?_ _ | refine kQD ?_ | refine kQA ?_ _)); refine kQP (cs := #[.int .i64 0, .slice none 0 0]) ?_ 0 _ rfl; (with_reducible repeat (first | refine kQN ?_ _ | refine kQD ?_ | refine kQA ?_ _)); exact BK468.out) Try.underlying26 rfl (by kernel_rfl)) rfl ?_
 exact ⟨_, by first | rfl | (simp [errW_none, errW_some] <;> rfl) | (simp [*, errW_none, errW_some] <;> rfl), by (with_reducible repeat (first | apply rA | apply rN | apply rD)); exact Kd.qbj (Kd.qbs (p := ⟨gb468, 1, none⟩) (Kd.qbs (p := ⟨gb468, 0, none⟩) (Kd.qbq HO484.out BK468.out (by decide)) (fun _ hk => hk.2) (.int .i64 t481)) (fun _ hk => hk.2) (.slice Ao19 t482.length co19)) (fun _ hk => trivial), by repeat (first | (with_reducible first | exact HB.out | apply bQA | apply bQN | apply bQ1 | refine bQS ?_ GE466.out | refine bQS ?_ GE467.out | refine bQS ?_ GE468.out) | exact HB.out)⟩
def qaz.f (k : Nat) (a0_0 : Int) (l0_1 : List Int) (a1_0 : Int) (l1_1 : List Int) : Option (Int × List Int × Int) := (qam.f k a0_0 l0_1 a1_0 l1_1).bind fun t488 => (if t488 = 0 then ((qa5.f k a0_0 l0_1 a1_0 l1_1).bind fun bt489 => (some (bt489.1, bt489.2, 0))) else (some (0, ([] : List Int), t488)))
theorem qaz.mono : ∀ a0 a1 a2 a3 k, LeO (qaz.f k a0 a1 a2 a3) (qaz.f (k + 1) a0 a1 a2 a3) := by
 intro a0 a1 a2 a3 k
 unfold qaz.f
 repeat' first
  | (with_reducible first | exact qa5.mono _ _ _ _ _ | exact qam.mono _ _ _ _ _ | exact LeO.refl _ | exact LeO.none _ | refine LeO.ite ?_ ?_ | refine LeO.bind ?_ (fun _ => ?_))
  | exact LeO.none _
  | refine LeO.ite ?_ ?_
  | refine LeO.bind ?_ (fun _ => ?_)
set_option maxHeartbeats 8000000 in
set_option maxRecDepth 100000 in
theorem qaz.calls (k : Nat) (a0_0 : Int) (A0_1 : Option Addr) (c0_1 : Nat) (l0_1 : List Int) (a1_0 : Int) (A1_1 : Option Addr) (c1_1 : Nat) (l1_1 : List Int) (r1 : Int) (r2 : List Int) (r3 : Int) (w : World) (hr0_1 : Kd.C (Kd.int .i64) w A0_1 l0_1.length l0_1) (hc0_1 : l0_1.length ≤ c0_1) (hr1_1 : Kd.C (Kd.int .i64) w A1_1 l1_1.length l1_1) (hc1_1 : l1_1.length ≤ c1_1) (h : qaz.f k a0_0 l0_1 a1_0 l1_1 = some (r1, r2, r3)) :
 Calls Try.prog 28 #[.agg #[.int .i64 a0_0, .slice A0_1 l0_1.length c0_1], .agg #[.int .i64 a1_0, .slice A1_1 l1_1.length c1_1]] w fun e w' => ∃ v1_ : Value, e = .returned (.tuple #[.agg #[.int .i64 r1, v1_], .int .i64 r3]) ∧ Kd.R (Kd.int .i64) 2 w' w.heap.size (fun _ => True) v1_ r2 ∧ Below w.heap.size w w' := by
 have hu26 := Try.underlying26
 have HR0_1 := Aq.mk hr0_1
 have HC0_1 := Aq.mk hc0_1
 clear hr0_1 hc0_1
 have HR1_1 := Aq.mk hr1_1
 have HC1_1 := Aq.mk hc1_1
 clear hr1_1 hc1_1
 have HB := Aq.mk (Below.refl w.heap.size w)
 have H : ((qam.f k a0_0 l0_1 a1_0 l1_1).bind fun t488 => (if t488 = 0 then ((qa5.f k a0_0 l0_1 a1_0 l1_1).bind fun bt489 => (some (bt489.1, bt489.2, 0))) else (some (0, ([] : List Int), t488)))) = some (r1, r2, r3) := h
 clear h
 replace H := Option.bind_eq_some_iff.mp H
 obtain ⟨t488, A30, H⟩ := H
 replace H : (if t488 = 0 then ((qa5.f k a0_0 l0_1 a1_0 l1_1).bind fun bt489 => (some (bt489.1, bt489.2, 0))) else (some (0, ([] : List Int), t488))) = some (r1, r2, r3) := H
 have A3 := Aq.mk A30
 clear A30
 by_cases c4 : t488 = 0
 ·rw [if_pos c4] at H
  have c4b0 : (t488 == 0) = true := beq_iff_eq.mpr c4
  have c4b1 : (t488 != 0) = false := bne_eq_false_iff_eq.mpr c4
  clear c4
  replace H := Option.bind_eq_some_iff.mp H
  obtain ⟨⟨t489, t490⟩, A50, H⟩ := H
  replace H : (some (t489, t490, 0)) = some (r1, r2, r3) := H
  have A5 := Aq.mk A50
  clear A50
  simp only [Option.some.injEq, Prod.mk.injEq] at H
  obtain ⟨rfl, rfl, rfl⟩ := H
  go_enter Try.func28, Try.ntmps28
  go_wp2_with (first | ((with_reducible refine gQd (N := 2) rfl ?_); refine xQe ?hg (N := 2) ?hd (cs := #[.int .i64 a0_0, .slice A0_1 l0_1.length c0_1]) (t := 26) ?hr ?_; (case hd => rfl); (case hg => rfl); (case hr => first | (go_simp; done) | (go_simp; rfl)); intro gb485 hg w6 hbox hb; have BK485 := Aq.mk (hbox); have GW485 := Aq.mk ((by rw [hg]; exact (bQZ (by repeat (with_reducible first | exact HB.out | apply bQA | apply bQN | apply bQ1))) : w.heap.size ≤ gb485)); have GE485 := Aq.mk ((by rw [hg]; exact (bQZ (by repeat (with_reducible first | exact HB.out | apply bQA | apply bQN | apply bQ1))) : w.heap.size ≤ gb485)); replace HB := Aq.mk (bQT (by repeat (with_reducible first | exact HB.out | apply bQA | apply bQN | apply bQ1)) hb); clear hb hbox hg) | ((with_reducible refine gQd (N := 3) rfl ?_); refine xQe ?hg (N := 3) ?hd (cs := #[.int .i64 a1_0, .slice A1_1 l1_1.length c1_1]) (t := 26) ?hr ?_; (case hd => rfl); (case hg => rfl); (case hr => first | (go_simp; done) | (go_simp; rfl)); intro gb486 hg w7 hbox hb; have BK486 := Aq.mk (hbox); have GW486 := Aq.mk ((by rw [hg]; exact (bQZ (by repeat (with_reducible first | exact HB.out | apply bQA | apply bQN | apply bQ1 | refine bQS ?_ GE485.out))) : w.heap.size ≤ gb486)); have GE486 := Aq.mk ((by rw [hg]; exact (bQZ (by repeat (with_reducible first | exact HB.out | apply bQA | apply bQN | apply bQ1 | refine bQS ?_ GE485.out))) : w.heap.size ≤ gb486)); replace HB := Aq.mk (bQT (by repeat (with_reducible first | exact HB.out | apply bQA | apply bQN | apply bQ1 | refine bQS ?_ GE485.out)) hb); have NB485_486 := Aq.mk ((by rw [hg]; exact Nat.ne_of_lt (qbo (g := gb485) (o := .cells #[.int .i64 a0_0, .slice A0_1 l0_1.length c0_1] 26 (0, 0)) (by (with_reducible repeat (first | refine kQN ?_ _ | refine kQD ?_ | refine kQA ?_ _)); exact BK485.out)) : gb485 ≠ gb486)); have NB486_485 := Aq.mk ((by rw [hg]; exact Nat.ne_of_gt (qbo (g := gb485) (o := .cells #[.int .i64 a0_0, .slice A0_1 l0_1.length c0_1] 26 (0, 0)) (by (with_reducible repeat (first | refine kQN ?_ _ | refine kQD ?_ | refine kQA ?_ _)); exact BK485.out)) : gb486 ≠ gb485)); replace BK485 := Aq.mk (kQB (g := gb485) (o := .cells #[.int .i64 a0_0, .slice A0_1 l0_1.length c0_1] 26 (0, 0)) (by (with_reducible repeat (first | refine kQN ?_ _ | refine kQD ?_ | refine kQA ?_ _)); exact BK485.out) hb); clear hb hbox hg) | ((with_reducible refine gQd (N := 4) rfl ?_); refine xQe ?hg (N := 4) ?hd (cs := #[.int .i64 0, .slice none 0 0]) (t := 26) ?hr ?_; (case hd => rfl); (case hg => rfl); (case hr => first | (go_simp; done) | (go_simp; rfl)); intro gb487 hg w8 hbox hb; have BK487 := Aq.mk (hbox); have GW487 := Aq.mk ((by rw [hg]; exact (bQZ (by repeat (with_reducible first | exact HB.out | apply bQA | apply bQN | apply bQ1 | refine bQS ?_ GE485.out | refine bQS ?_ GE486.out))) : w.heap.size ≤ gb487)); have GE487 := Aq.mk ((by rw [hg]; exact (bQZ (by repeat (with_reducible first | exact HB.out | apply bQA | apply bQN | apply bQ1 | refine bQS ?_ GE485.out | refine bQS ?_ GE486.out))) : w.heap.size ≤ gb487)); replace HB := Aq.mk (bQT (by repeat (with_reducible first | exact HB.out | apply bQA | apply bQN | apply bQ1 | refine bQS ?_ GE485.out | refine bQS ?_ GE486.out)) hb); have NB485_487 := Aq.mk ((by rw [hg]; exact Nat.ne_of_lt (qbo (g := gb485) (o := .cells #[.int .i64 a0_0, .slice A0_1 l0_1.length c0_1] 26 (0, 0)) (by (with_reducible repeat (first | refine kQN ?_ _ | refine kQD ?_ | refine kQA ?_ _)); exact BK485.out)) : gb485 ≠ gb487)); have NB487_485 := Aq.mk ((by rw [hg]; exact Nat.ne_of_gt (qbo (g := gb485) (o := .cells #[.int .i64 a0_0, .slice A0_1 l0_1.length c0_1] 26 (0, 0)) (by (with_reducible repeat (first | refine kQN ?_ _ | refine kQD ?_ | refine kQA ?_ _)); exact BK485.out)) : gb487 ≠ gb485)); replace BK485 := Aq.mk (kQB (g := gb485) (o := .cells #[.int .i64 a0_0, .slice A0_1 l0_1.length c0_1] 26 (0, 0)) (by (with_reducible repeat (first | refine kQN ?_ _ | refine kQD ?_ | refine kQA ?_ _)); exact BK485.out) hb); have NB486_487 := Aq.mk ((by rw [hg]; exact Nat.ne_of_lt (qbo (g := gb486) (o := .cells #[.int .i64 a1_0, .slice A1_1 l1_1.length c1_1] 26 (0, 0)) (by (with_reducible repeat (first | refine kQN ?_ _ | refine kQD ?_ | refine kQA ?_ _)); exact BK486.out)) : gb486 ≠ gb487)); have NB487_486 := Aq.mk ((by rw [hg]; exact Nat.ne_of_gt (qbo (g := gb486) (o := .cells #[.int .i64 a1_0, .slice A1_1 l1_1.length c1_1] 26 (0, 0)) (by (with_reducible repeat (first | refine kQN ?_ _ | refine kQD ?_ | refine kQA ?_ _)); exact BK486.out)) : gb487 ≠ gb486)); replace BK486 := Aq.mk (kQB (g := gb486) (o := .cells #[.int .i64 a1_0, .slice A1_1 l1_1.length c1_1] 26 (0, 0)) (by (with_reducible repeat (first | refine kQN ?_ _ | refine kQD ?_ | refine kQA ?_ _)); exact BK486.out) hb); clear hb hbox hg; have hnb9 := NB485_486.out; have hnc9 := NB486_485.out; have hnb10 := NB485_487.out; have hnc10 := NB487_485.out; have hcz11_0 : w8.cell? ⟨gb485, 0, none⟩ = some (.int .i64 a0_0) := (kQC BK485.out 0).trans rfl; have hcz11_1 : w8.cell? ⟨gb485, 1, none⟩ = some (.slice A0_1 l0_1.length c0_1) := (kQC BK485.out 1).trans rfl; have hfz11_0 := kQF BK485.out 0; have hfz11_1 := kQF BK485.out 1; have hnb12 := NB486_487.out; have hnc12 := NB487_486.out; have hcz13_0 : w8.cell? ⟨gb486, 0, none⟩ = some (.int .i64 a1_0) := (kQC BK486.out 0).trans rfl; have hcz13_1 : w8.cell? ⟨gb486, 1, none⟩ = some (.slice A1_1 l1_1.length c1_1) := (kQC BK486.out 1).trans rfl; have hfz13_0 := kQF BK486.out 0; have hfz13_1 := kQF BK486.out 1) | ((with_reducible refine gQc (f := 70) rfl ?_); refine qbz (some 9) rfl rfl Try.func70 (by kernel_rfl) rfl #[.agg #[.int .i64 a0_0, .slice A0_1 l0_1.length c0_1], .agg #[.int .i64 a1_0, .slice A1_1 l1_1.length c1_1]] rfl (by (try simp only [List.map_toArray, List.map_cons, List.map_nil]); first | done | rfl | (simp only [List.length_drop, List.length_take]; rfl)) ?_; (with_reducible refine (qam.calls k a0_0 _ _ l0_1 a1_0 _ _ l1_1 t488 _ ?side1 ?side2 ?side3 ?side4 A3.out).mono ?_); (case side1 => repeat (first | exact (Kd.qbt HR0_1.out HB.out) | (with_reducible refine Kd.CqA ?_ _) | (with_reducible refine Kd.CqN ?_ _) | (with_reducible refine Kd.CqD ?_))); (case side2 => exact HC0_1.out); (case side3 => repeat (first | exact (Kd.qbt HR1_1.out HB.out) | (with_reducible refine Kd.CqA ?_ _) | (with_reducible refine Kd.CqN ?_ _) | (with_reducible refine Kd.CqD ?_))); (case side4 => exact HC1_1.out); rintro e w14 ⟨rfl, hb⟩; refine ⟨_, rfl, ?_⟩; replace BK485 := Aq.mk (kQB (g := gb485) (o := .cells #[.int .i64 a0_0, .slice A0_1 l0_1.length c0_1] 26 (0, 0)) (by (with_reducible repeat (first | refine kQN ?_ _ | refine kQD ?_ | refine kQA ?_ _)); exact BK485.out) hb); replace BK486 := Aq.mk (kQB (g := gb486) (o := .cells #[.int .i64 a1_0, .slice A1_1 l1_1.length c1_1] 26 (0, 0)) (by (with_reducible repeat (first | refine kQN ?_ _ | refine kQD ?_ | refine kQA ?_ _)); exact BK486.out) hb); replace BK487 := Aq.mk (kQB (g := gb487) (o := .cells #[.int .i64 0, .slice none 0 0] 26 (0, 0)) (by (with_reducible repeat (first | refine kQN ?_ _ | refine kQD ?_ | refine kQA ?_ _)); exact BK487.out) hb); replace HB := Aq.mk (bQT (by repeat (with_reducible first | exact HB.out | apply bQA | apply bQN | apply bQ1 | refine bQS ?_ GE485.out | refine bQS ?_ GE486.out | refine bQS ?_ GE487.out)) hb); (try clear hb); (try clear hb2); (try clear hk); (try clear hi); have hcz15_0 : w14.cell? ⟨gb485, 0, none⟩ = some (.int .i64 a0_0) := (kQC BK485.out 0).trans rfl; have hcz15_1 : w14.cell? ⟨gb485, 1, none⟩ = some (.slice A0_1 l0_1.length c0_1) := (kQC BK485.out 1).trans rfl; have hfz15_0 := kQF BK485.out 0; have hfz15_1 := kQF BK485.out 1; have hcz16_0 : w14.cell? ⟨gb486, 0, none⟩ = some (.int .i64 a1_0) := (kQC BK486.out 0).trans rfl; have hcz16_1 : w14.cell? ⟨gb486, 1, none⟩ = some (.slice A1_1 l1_1.length c1_1) := (kQC BK486.out 1).trans rfl; have hfz16_0 := kQF BK486.out 0; have hfz16_1 := kQF BK486.out 1) | ((with_reducible refine gQc (f := 72) rfl ?_); refine qbz (some 16) rfl rfl Try.func72 (by kernel_rfl) rfl #[.agg #[.int .i64 a0_0, .slice A0_1 l0_1.length c0_1], .agg #[.int .i64 a1_0, .slice A1_1 l1_1.length c1_1]] rfl (by (try simp only [List.map_toArray, List.map_cons, List.map_nil]); first | done | rfl | (simp only [List.length_drop, List.length_take]; rfl)) ?_; (with_reducible refine (qa5.calls k a0_0 _ _ l0_1 a1_0 _ _ l1_1 t489 t490 _ ?side1 ?side2 ?side3 ?side4 A5.out).mono ?_); (case side1 => repeat (first | exact (Kd.qbt HR0_1.out HB.out) | (with_reducible refine Kd.CqA ?_ _) | (with_reducible refine Kd.CqN ?_ _) | (with_reducible refine Kd.CqD ?_))); (case side2 => exact HC0_1.out); (case side3 => repeat (first | exact (Kd.qbt HR1_1.out HB.out) | (with_reducible refine Kd.CqA ?_ _) | (with_reducible refine Kd.CqN ?_ _) | (with_reducible refine Kd.CqD ?_))); (case side4 => exact HC1_1.out); rintro e w17 ⟨v491, rfl, ho0, hb⟩; refine ⟨_, rfl, ?_⟩; have HO492 := Aq.mk (Kd.qbx ho0 (bQZ (by repeat (with_reducible first | exact HB.out | apply bQA | apply bQN | apply bQ1 | refine bQS ?_ GE485.out | refine bQS ?_ GE486.out | refine bQS ?_ GE487.out)))); replace BK485 := Aq.mk (kQB (g := gb485) (o := .cells #[.int .i64 a0_0, .slice A0_1 l0_1.length c0_1] 26 (0, 0)) (by (with_reducible repeat (first | refine kQN ?_ _ | refine kQD ?_ | refine kQA ?_ _)); exact BK485.out) hb); replace BK486 := Aq.mk (kQB (g := gb486) (o := .cells #[.int .i64 a1_0, .slice A1_1 l1_1.length c1_1] 26 (0, 0)) (by (with_reducible repeat (first | refine kQN ?_ _ | refine kQD ?_ | refine kQA ?_ _)); exact BK486.out) hb); replace BK487 := Aq.mk (kQB (g := gb487) (o := .cells #[.int .i64 0, .slice none 0 0] 26 (0, 0)) (by (with_reducible repeat (first | refine kQN ?_ _ | refine kQD ?_ | refine kQA ?_ _)); exact BK487.out) hb); replace HB := Aq.mk (bQT (by repeat (with_reducible first | exact HB.out | apply bQA | apply bQN | apply bQ1 | refine bQS ?_ GE485.out | refine bQS ?_ GE486.out | refine bQS ?_ GE487.out)) hb); (try clear hb); (try clear hb2); (try clear hk); (try clear hi); (try clear ho0); have hcz18_0 : w17.cell? ⟨gb487, 0, none⟩ = some (.int .i64 0) := (kQC BK487.out 0).trans rfl; have hcz18_1 : w17.cell? ⟨gb487, 1, none⟩ = some (.slice none 0 0) := (kQC BK487.out 1).trans rfl; have hfz18_0 := kQF BK487.out 0; have hfz18_1 := kQF BK487.out 1; obtain ⟨Ao19, co19, eo19⟩ := Kd.qbw HO492.out; subst eo19))
  refine bodyPost_ret (results_ct rfl _ _ gb487 26 #[.int .i64 t489, .slice Ao19 t490.length co19] (0, 0) _ rfl (by (with_reducible repeat (first | refine kQN ?_ _ | refine kQD ?_ | refine kQA ?_ _)); refine kQP (cs := #[.int .i64 t489, .slice none 0 0]) ?_ 1 _ rfl; (with_reducible repeat (first | refine kQN ?_ _ | refine kQD ?_ | refine kQA ?_ _)); refine kQP (cs := #[.int .i64 0, .slice none 0 0]) ?_ 0 _ rfl; (with_reducible repeat (first | refine kQN ?_ _ | refine kQD ?_ | refine kQA ?_ _)); exact BK487.out) Try.underlying26 rfl (by kernel_rfl)) rfl ?_
  exact ⟨_, by first | rfl | (simp [errW_none, errW_some] <;> rfl) | (simp [*, errW_none, errW_some] <;> rfl), by (with_reducible repeat (first | apply rA | apply rN | apply rD)); exact Kd.qbj (Kd.qbs (p := ⟨gb487, 1, none⟩) (Kd.qbs (p := ⟨gb487, 0, none⟩) (Kd.qbq HO492.out BK487.out (by decide)) (fun _ hk => hk.2) (.int .i64 t489)) (fun _ hk => hk.2) (.slice Ao19 t490.length co19)) (fun _ hk => trivial), by repeat (first | (with_reducible first | exact HB.out | apply bQA | apply bQN | apply bQ1 | refine bQS ?_ GE485.out | refine bQS ?_ GE486.out | refine bQS ?_ GE487.out) | exact HB.out)⟩
 ·rw [if_neg c4] at H
  have c4b0 : (t488 == 0) = false := beq_eq_false_iff_ne.mpr c4
  have c4b1 : (t488 != 0) = true := bne_iff_ne.mpr c4
  simp only [Option.some.injEq, Prod.mk.injEq] at H
  obtain ⟨rfl, rfl, rfl⟩ := H
  go_enter Try.func28, Try.ntmps28
  go_wp2_with (first | ((with_reducible refine gQd (N := 2) rfl ?_); refine xQe ?hg (N := 2) ?hd (cs := #[.int .i64 a0_0, .slice A0_1 l0_1.length c0_1]) (t := 26) ?hr ?_; (case hd => rfl); (case hg => rfl); (case hr => first | (go_simp; done) | (go_simp; rfl)); intro gb485 hg w20 hbox hb; have BK485 := Aq.mk (hbox); have GW485 := Aq.mk ((by rw [hg]; exact (bQZ (by repeat (with_reducible first | exact HB.out | apply bQA | apply bQN | apply bQ1))) : w.heap.size ≤ gb485)); have GE485 := Aq.mk ((by rw [hg]; exact (bQZ (by repeat (with_reducible first | exact HB.out | apply bQA | apply bQN | apply bQ1))) : w.heap.size ≤ gb485)); replace HB := Aq.mk (bQT (by repeat (with_reducible first | exact HB.out | apply bQA | apply bQN | apply bQ1)) hb); clear hb hbox hg) | ((with_reducible refine gQd (N := 3) rfl ?_); refine xQe ?hg (N := 3) ?hd (cs := #[.int .i64 a1_0, .slice A1_1 l1_1.length c1_1]) (t := 26) ?hr ?_; (case hd => rfl); (case hg => rfl); (case hr => first | (go_simp; done) | (go_simp; rfl)); intro gb486 hg w21 hbox hb; have BK486 := Aq.mk (hbox); have GW486 := Aq.mk ((by rw [hg]; exact (bQZ (by repeat (with_reducible first | exact HB.out | apply bQA | apply bQN | apply bQ1 | refine bQS ?_ GE485.out))) : w.heap.size ≤ gb486)); have GE486 := Aq.mk ((by rw [hg]; exact (bQZ (by repeat (with_reducible first | exact HB.out | apply bQA | apply bQN | apply bQ1 | refine bQS ?_ GE485.out))) : w.heap.size ≤ gb486)); replace HB := Aq.mk (bQT (by repeat (with_reducible first | exact HB.out | apply bQA | apply bQN | apply bQ1 | refine bQS ?_ GE485.out)) hb); have NB485_486 := Aq.mk ((by rw [hg]; exact Nat.ne_of_lt (qbo (g := gb485) (o := .cells #[.int .i64 a0_0, .slice A0_1 l0_1.length c0_1] 26 (0, 0)) (by (with_reducible repeat (first | refine kQN ?_ _ | refine kQD ?_ | refine kQA ?_ _)); exact BK485.out)) : gb485 ≠ gb486)); have NB486_485 := Aq.mk ((by rw [hg]; exact Nat.ne_of_gt (qbo (g := gb485) (o := .cells #[.int .i64 a0_0, .slice A0_1 l0_1.length c0_1] 26 (0, 0)) (by (with_reducible repeat (first | refine kQN ?_ _ | refine kQD ?_ | refine kQA ?_ _)); exact BK485.out)) : gb486 ≠ gb485)); replace BK485 := Aq.mk (kQB (g := gb485) (o := .cells #[.int .i64 a0_0, .slice A0_1 l0_1.length c0_1] 26 (0, 0)) (by (with_reducible repeat (first | refine kQN ?_ _ | refine kQD ?_ | refine kQA ?_ _)); exact BK485.out) hb); clear hb hbox hg) | ((with_reducible refine gQd (N := 4) rfl ?_); refine xQe ?hg (N := 4) ?hd (cs := #[.int .i64 0, .slice none 0 0]) (t := 26) ?hr ?_; (case hd => rfl); (case hg => rfl); (case hr => first | (go_simp; done) | (go_simp; rfl)); intro gb487 hg w22 hbox hb; have BK487 := Aq.mk (hbox); have GW487 := Aq.mk ((by rw [hg]; exact (bQZ (by repeat (with_reducible first | exact HB.out | apply bQA | apply bQN | apply bQ1 | refine bQS ?_ GE485.out | refine bQS ?_ GE486.out))) : w.heap.size ≤ gb487)); have GE487 := Aq.mk ((by rw [hg]; exact (bQZ (by repeat (with_reducible first | exact HB.out | apply bQA | apply bQN | apply bQ1 | refine bQS ?_ GE485.out | refine bQS ?_ GE486.out))) : w.heap.size ≤ gb487)); replace HB := Aq.mk (bQT (by repeat (with_reducible first | exact HB.out | apply bQA | apply bQN | apply bQ1 | refine bQS ?_ GE485.out | refine bQS ?_ GE486.out)) hb); have NB485_487 := Aq.mk ((by rw [hg]; exact Nat.ne_of_lt (qbo (g := gb485) (o := .cells #[.int .i64 a0_0, .slice A0_1 l0_1.length c0_1] 26 (0, 0)) (by (with_reducible repeat (first | refine kQN ?_ _ | refine kQD ?_ | refine kQA ?_ _)); exact BK485.out)) : gb485 ≠ gb487)); have NB487_485 := Aq.mk ((by rw [hg]; exact Nat.ne_of_gt (qbo (g := gb485) (o := .cells #[.int .i64 a0_0, .slice A0_1 l0_1.length c0_1] 26 (0, 0)) (by (with_reducible repeat (first | refine kQN ?_ _ | refine kQD ?_ | refine kQA ?_ _)); exact BK485.out)) : gb487 ≠ gb485)); replace BK485 := Aq.mk (kQB (g := gb485) (o := .cells #[.int .i64 a0_0, .slice A0_1 l0_1.length c0_1] 26 (0, 0)) (by (with_reducible repeat (first | refine kQN ?_ _ | refine kQD ?_ | refine kQA ?_ _)); exact BK485.out) hb); have NB486_487 := Aq.mk ((by rw [hg]; exact Nat.ne_of_lt (qbo (g := gb486) (o := .cells #[.int .i64 a1_0, .slice A1_1 l1_1.length c1_1] 26 (0, 0)) (by (with_reducible repeat (first | refine kQN ?_ _ | refine kQD ?_ | refine kQA ?_ _)); exact BK486.out)) : gb486 ≠ gb487)); have NB487_486 := Aq.mk ((by rw [hg]; exact Nat.ne_of_gt (qbo (g := gb486) (o := .cells #[.int .i64 a1_0, .slice A1_1 l1_1.length c1_1] 26 (0, 0)) (by (with_reducible repeat (first | refine kQN ?_ _ | refine kQD ?_ | refine kQA ?_ _)); exact BK486.out)) : gb487 ≠ gb486)); replace BK486 := Aq.mk (kQB (g := gb486) (o := .cells #[.int .i64 a1_0, .slice A1_1 l1_1.length c1_1] 26 (0, 0)) (by (with_reducible repeat (first | refine kQN ?_ _ | refine kQD ?_ | refine kQA ?_ _)); exact BK486.out) hb); clear hb hbox hg; have hnb23 := NB485_486.out; have hnc23 := NB486_485.out; have hnb24 := NB485_487.out; have hnc24 := NB487_485.out; have hcz25_0 : w22.cell? ⟨gb485, 0, none⟩ = some (.int .i64 a0_0) := (kQC BK485.out 0).trans rfl; have hcz25_1 : w22.cell? ⟨gb485, 1, none⟩ = some (.slice A0_1 l0_1.length c0_1) := (kQC BK485.out 1).trans rfl; have hfz25_0 := kQF BK485.out 0; have hfz25_1 := kQF BK485.out 1; have hnb26 := NB486_487.out; have hnc26 := NB487_486.out; have hcz27_0 : w22.cell? ⟨gb486, 0, none⟩ = some (.int .i64 a1_0) := (kQC BK486.out 0).trans rfl; have hcz27_1 : w22.cell? ⟨gb486, 1, none⟩ = some (.slice A1_1 l1_1.length c1_1) := (kQC BK486.out 1).trans rfl; have hfz27_0 := kQF BK486.out 0; have hfz27_1 := kQF BK486.out 1) | ((with_reducible refine gQc (f := 70) rfl ?_); refine qbz (some 9) rfl rfl Try.func70 (by kernel_rfl) rfl #[.agg #[.int .i64 a0_0, .slice A0_1 l0_1.length c0_1], .agg #[.int .i64 a1_0, .slice A1_1 l1_1.length c1_1]] rfl (by (try simp only [List.map_toArray, List.map_cons, List.map_nil]); first | done | rfl | (simp only [List.length_drop, List.length_take]; rfl)) ?_; (with_reducible refine (qam.calls k a0_0 _ _ l0_1 a1_0 _ _ l1_1 t488 _ ?side1 ?side2 ?side3 ?side4 A3.out).mono ?_); (case side1 => repeat (first | exact (Kd.qbt HR0_1.out HB.out) | (with_reducible refine Kd.CqA ?_ _) | (with_reducible refine Kd.CqN ?_ _) | (with_reducible refine Kd.CqD ?_))); (case side2 => exact HC0_1.out); (case side3 => repeat (first | exact (Kd.qbt HR1_1.out HB.out) | (with_reducible refine Kd.CqA ?_ _) | (with_reducible refine Kd.CqN ?_ _) | (with_reducible refine Kd.CqD ?_))); (case side4 => exact HC1_1.out); rintro e w28 ⟨rfl, hb⟩; refine ⟨_, rfl, ?_⟩; replace BK485 := Aq.mk (kQB (g := gb485) (o := .cells #[.int .i64 a0_0, .slice A0_1 l0_1.length c0_1] 26 (0, 0)) (by (with_reducible repeat (first | refine kQN ?_ _ | refine kQD ?_ | refine kQA ?_ _)); exact BK485.out) hb); replace BK486 := Aq.mk (kQB (g := gb486) (o := .cells #[.int .i64 a1_0, .slice A1_1 l1_1.length c1_1] 26 (0, 0)) (by (with_reducible repeat (first | refine kQN ?_ _ | refine kQD ?_ | refine kQA ?_ _)); exact BK486.out) hb); replace BK487 := Aq.mk (kQB (g := gb487) (o := .cells #[.int .i64 0, .slice none 0 0] 26 (0, 0)) (by (with_reducible repeat (first | refine kQN ?_ _ | refine kQD ?_ | refine kQA ?_ _)); exact BK487.out) hb); replace HB := Aq.mk (bQT (by repeat (with_reducible first | exact HB.out | apply bQA | apply bQN | apply bQ1 | refine bQS ?_ GE485.out | refine bQS ?_ GE486.out | refine bQS ?_ GE487.out)) hb); (try clear hb); (try clear hb2); (try clear hk); (try clear hi); have hcz29_0 : w28.cell? ⟨gb487, 0, none⟩ = some (.int .i64 0) := (kQC BK487.out 0).trans rfl; have hcz29_1 : w28.cell? ⟨gb487, 1, none⟩ = some (.slice none 0 0) := (kQC BK487.out 1).trans rfl; have hfz29_0 := kQF BK487.out 0; have hfz29_1 := kQF BK487.out 1))
  refine bodyPost_ret (results_ct rfl _ _ gb487 26 #[.int .i64 0, .slice none 0 0] (0, 0) _ rfl (by (with_reducible repeat (first | refine kQN ?_ _ | refine kQD ?_ | refine kQA ?_ _)); refine kQP (cs := #[.int .i64 0, .slice none 0 0]) ?_ 1 _ rfl; (with_reducible repeat (first | refine kQN ?_ _ | refine kQD ?_ | refine kQA ?_ _)); refine kQP (cs := #[.int .i64 0, .slice none 0 0]) ?_ 0 _ rfl; (with_reducible repeat (first | refine kQN ?_ _ | refine kQD ?_ | refine kQA ?_ _)); exact BK487.out) Try.underlying26 rfl (by kernel_rfl)) rfl ?_
  exact ⟨_, by first | rfl | (simp [errW_none, errW_some] <;> rfl) | (simp [*, errW_none, errW_some] <;> rfl), by first | exact Kd.R_nil _ _ _ _ _ | exact Kd.N_nil _ _ _ _ _ | exact Kd.V_nil _ _ _ _ _ | exact Kd.Q_nil _ _ _ _ _ | exact Kd.S_nil _ _ _ _ _, by repeat (first | (with_reducible first | exact HB.out | apply bQA | apply bQN | apply bQ1 | refine bQS ?_ GE485.out | refine bQS ?_ GE486.out | refine bQS ?_ GE487.out) | exact HB.out)⟩
end Go.Proofs.Ytbaicdgkpnbipaa.P
