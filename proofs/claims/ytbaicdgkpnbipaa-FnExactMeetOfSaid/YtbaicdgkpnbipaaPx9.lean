/- Printed functions. -/
import Derived.Test.YtbaicdgkpnbipaaPx0
import Derived.Test.YtbaicdgkpnbipaaPx4
namespace Go.Proofs.Ytbaicdgkpnbipaa.P
open Go.Shelf Go.RowKit Go.Proofs.YtbaicdgkpnbipaaW.PrintWords Go.Proofs.YtbaicdgkpnbipaaW.PrintLast Go.Proofs.YtbaicdgkpnbipaaW.PrintMore
attribute [local go_sem] max2_int min2_int max_two min_two max_three min_three max_four min_four
set_option linter.unusedVariables false
set_option linter.unusedSimpArgs false
def qa2.f (k : Nat) (a0_0 : Int) (l0_1 : List Int) : Option (Int × List Int) := (qaf.f k l0_1).bind fun t198 => (some (a0_0, t198))
theorem qa2.mono : ∀ a0 a1 k, LeO (qa2.f k a0 a1) (qa2.f (k + 1) a0 a1) := by
 intro a0 a1 k
 unfold qa2.f
 repeat' first
  | (with_reducible first | exact qaf.mono _ _ | exact LeO.refl _ | exact LeO.none _ | refine LeO.ite ?_ ?_ | refine LeO.bind ?_ (fun _ => ?_))
  | exact LeO.none _
  | refine LeO.ite ?_ ?_
  | refine LeO.bind ?_ (fun _ => ?_)
set_option maxHeartbeats 8000000 in
set_option maxRecDepth 100000 in
theorem qa2.calls (k : Nat) (a0_0 : Int) (A0_1 : Option Addr) (c0_1 : Nat) (l0_1 : List Int) (r1 : Int) (r2 : List Int) (w : World) (hr0_1 : Kd.C (Kd.int .i64) w A0_1 l0_1.length l0_1) (hc0_1 : l0_1.length ≤ c0_1) (h : qa2.f k a0_0 l0_1 = some (r1, r2)) :
 Calls Try.prog 91 #[.agg #[.int .i64 a0_0, .slice A0_1 l0_1.length c0_1]] w fun e w' => ∃ v1_ : Value, e = .returned (.agg #[.int .i64 r1, v1_]) ∧ Kd.R (Kd.int .i64) 2 w' w.heap.size (fun _ => True) v1_ r2 ∧ Below w.heap.size w w' := by
 have hu26 := Try.underlying26
 have HR0_1 := Aq.mk hr0_1
 have HC0_1 := Aq.mk hc0_1
 clear hr0_1 hc0_1
 have HB := Aq.mk (Below.refl w.heap.size w)
 have H : ((qaf.f k l0_1).bind fun t198 => (some (a0_0, t198))) = some (r1, r2) := h
 clear h
 replace H := Option.bind_eq_some_iff.mp H
 obtain ⟨t198, A20, H⟩ := H
 replace H : (some (a0_0, t198)) = some (r1, r2) := H
 have A2 := Aq.mk A20
 clear A20
 simp only [Option.some.injEq, Prod.mk.injEq] at H
 obtain ⟨rfl, rfl⟩ := H
 go_enter Try.func91, Try.ntmps91
 try go_wp2_with (first | ((with_reducible refine gQd (N := 1) rfl ?_); refine xQe ?hg (N := 1) ?hd (cs := #[.int .i64 a0_0, .slice A0_1 l0_1.length c0_1]) (t := 26) ?hr ?_; (case hd => rfl); (case hg => rfl); (case hr => first | (go_simp; done) | (go_simp; rfl)); intro gb196 hg w3 hbox hb; have BK196 := Aq.mk (hbox); have GW196 := Aq.mk ((by rw [hg]; exact (bQZ (by repeat (with_reducible first | exact HB.out | apply bQA | apply bQN | apply bQ1))) : w.heap.size ≤ gb196)); have GE196 := Aq.mk ((by rw [hg]; exact (bQZ (by repeat (with_reducible first | exact HB.out | apply bQA | apply bQN | apply bQ1))) : w.heap.size ≤ gb196)); replace HB := Aq.mk (bQT (by repeat (with_reducible first | exact HB.out | apply bQA | apply bQN | apply bQ1)) hb); clear hb hbox hg) | ((with_reducible refine gQd (N := 2) rfl ?_); refine xQe ?hg (N := 2) ?hd (cs := #[.int .i64 0, .slice none 0 0]) (t := 26) ?hr ?_; (case hd => rfl); (case hg => rfl); (case hr => first | (go_simp; done) | (go_simp; rfl)); intro gb197 hg w4 hbox hb; have BK197 := Aq.mk (hbox); have GW197 := Aq.mk ((by rw [hg]; exact (bQZ (by repeat (with_reducible first | exact HB.out | apply bQA | apply bQN | apply bQ1 | refine bQS ?_ GE196.out))) : w.heap.size ≤ gb197)); have GE197 := Aq.mk ((by rw [hg]; exact (bQZ (by repeat (with_reducible first | exact HB.out | apply bQA | apply bQN | apply bQ1 | refine bQS ?_ GE196.out))) : w.heap.size ≤ gb197)); replace HB := Aq.mk (bQT (by repeat (with_reducible first | exact HB.out | apply bQA | apply bQN | apply bQ1 | refine bQS ?_ GE196.out)) hb); have NB196_197 := Aq.mk ((by rw [hg]; exact Nat.ne_of_lt (qbo (g := gb196) (o := .cells #[.int .i64 a0_0, .slice A0_1 l0_1.length c0_1] 26 (0, 0)) (by (with_reducible repeat (first | refine kQN ?_ _ | refine kQD ?_ | refine kQA ?_ _)); exact BK196.out)) : gb196 ≠ gb197)); have NB197_196 := Aq.mk ((by rw [hg]; exact Nat.ne_of_gt (qbo (g := gb196) (o := .cells #[.int .i64 a0_0, .slice A0_1 l0_1.length c0_1] 26 (0, 0)) (by (with_reducible repeat (first | refine kQN ?_ _ | refine kQD ?_ | refine kQA ?_ _)); exact BK196.out)) : gb197 ≠ gb196)); replace BK196 := Aq.mk (kQB (g := gb196) (o := .cells #[.int .i64 a0_0, .slice A0_1 l0_1.length c0_1] 26 (0, 0)) (by (with_reducible repeat (first | refine kQN ?_ _ | refine kQD ?_ | refine kQA ?_ _)); exact BK196.out) hb); clear hb hbox hg))
 replace BK196 := Aq.mk (kQD BK196.out)
 replace BK197 := Aq.mk (kQD BK197.out)
 replace HB := Aq.mk (bQ1 HB.out)
 refine start_ (n := 7) (S := fun w' => w'.cell? ⟨gb196, 0, none⟩ = some (.int .i64 a0_0) ∧ w'.cell? ⟨gb196, 1, none⟩ = some (.slice A0_1 l0_1.length c0_1)) (ds := []) #[false, false, false, false, false, false, false] (by kernel_rfl) rfl rfl ⟨(kQC BK196.out 0).trans rfl, (kQC BK196.out 1).trans rfl⟩ (fun hHeld => ?_)
 generalize w4.drew = w5 at BK196 BK197 HB hHeld ⊢
 refine qbv (i := 0) (N := some 3) (v := ?_) (a' := ?_) #[true, false, false, false, false, false, false] rfl rfl (by kernel_rfl) (fun _ _ _ h => h) (Or.inl ⟨by rfl, ?_⟩) ?_ ?_
 rotate_left
 ·intro w'
  go_simp
  with_reducible rfl
 rotate_left
 ·simp only [Act.put, qSa, qSb, qSc, qbl, qbn]
  rfl
 refine qbv (i := 2) (N := some 5) (v := ?_) (a' := ?_) #[true, false, true, false, false, false, false] rfl rfl (by kernel_rfl) (fun _ _ _ h => h) (Or.inl ⟨by rfl, ?_⟩) ?_ ?_
 rotate_left
 ·intro w'
  go_simp
  with_reducible rfl
 rotate_left
 ·simp only [Act.put, qSa, qSb, qSc, qbl, qbn]
  rfl
 refine take_ (i := 1) (N := some 4) (v := ?_) (a' := ?_) #[true, true, true, false, false, false, false] rfl rfl (by kernel_rfl) (fun _ _ _ h => h) (Or.inl ⟨by rfl, ?_⟩) hHeld ?_ ?_
 rotate_left
 ·rintro w' ⟨s0, s1⟩
  go_simp
  with_reducible rfl
 rotate_left
 ·simp only [Act.put, qSa, qSb, qSc, qbl, qbn]
  rfl
 refine take_ (i := 3) (N := some 6) (v := ?_) (a' := ?_) #[true, true, true, true, false, false, false] rfl rfl (by kernel_rfl) (fun _ _ _ h => h) (Or.inl ⟨by rfl, ?_⟩) hHeld ?_ ?_
 rotate_left
 ·rintro w' ⟨s0, s1⟩
  go_simp
  with_reducible rfl
 rotate_left
 ·simp only [Act.put, qSa, qSb, qSc, qbl, qbn]
  rfl
 refine one_ (i := 4) (N := some 7) #[true, true, true, true, true, false, false] rfl rfl (by kernel_rfl) (by decide) (fun K hK => ?_)
 refine goes_ Try.func66 (by kernel_rfl) rfl #[.slice A0_1 l0_1.length c0_1] (by rfl) rfl rfl (by (try simp only [List.map_toArray, List.map_cons, List.map_nil]); first | done | rfl | (simp only [List.length_drop, List.length_take]; rfl)) ?_
 with_reducible refine (qaf.calls k _ _ l0_1 t198 _ ?side1 ?side2 A2.out).mono ?_
 (case side1 => repeat (first | exact (Kd.qbt HR0_1.out HB.out) | (with_reducible refine Kd.CqA ?_ _) | (with_reducible refine Kd.CqN ?_ _) | (with_reducible refine Kd.CqD ?_)))
 (case side2 => exact HC0_1.out)
 rintro e w6 ⟨v199, rfl, ho0, hb⟩
 refine ⟨_, rfl, ?_⟩
 have HO200 := Aq.mk (Kd.qbx ho0 (bQZ (by repeat (with_reducible first | exact HB.out | apply bQA | apply bQN | apply bQ1 | refine bQS ?_ GE196.out | refine bQS ?_ GE197.out))))
 replace BK196 := Aq.mk (kQB (by (with_reducible repeat (first | refine kQN ?_ _ | refine kQD ?_ | refine kQA ?_ _)); exact BK196.out) hb)
 replace BK197 := Aq.mk (kQB (by (with_reducible repeat (first | refine kQN ?_ _ | refine kQD ?_ | refine kQA ?_ _)); exact BK197.out) hb)
 replace HB := Aq.mk (bQT (by repeat (with_reducible first | exact HB.out | apply bQA | apply bQN | apply bQ1 | refine bQS ?_ GE196.out | refine bQS ?_ GE197.out)) hb)
 (try clear hb)
 (try clear hb2)
 (try clear hk)
 (try clear hi)
 (try clear ho0)
 obtain ⟨Ao7, co7, eo7⟩ := Kd.qbw HO200.out
 (first | subst eo7 | (injection eo7 with f1_ f2_ f3_; have f4_ := f1_.symm; have f5_ := f3_.symm; clear f1_ f2_ f3_; subst f4_; subst f5_))
 refine hK.out _ _ ⟨(kQC BK196.out 0).trans rfl, (kQC BK196.out 1).trans rfl⟩ (fun hHeld => ?_)
 clear hK K
 refine qb0 (a' := ?_) ?_ ?_
 rotate_left
 ·show Act.put _ (some 7) _ = _
  simp only [Act.put, qSa, qSb, qSc, qbl, qbn]
  rfl
 refine qbv (i := 5) (N := some 8) (v := ?_) (a' := ?_) #[true, true, true, true, true, true, false] rfl rfl (by kernel_rfl) (fun _ _ _ h => h) (Or.inl ⟨by rfl, ?_⟩) ?_ ?_
 rotate_left
 ·intro w'
  go_simp
  with_reducible rfl
 rotate_left
 ·simp only [Act.put, qSa, qSb, qSc, qbl, qbn]
  rfl
 refine one_ (i := 6) (N := none) #[true, true, true, true, true, true, true] rfl rfl (by kernel_rfl) (by decide) (fun K hK => ?_)
 have hs8 : w6.cell? ⟨gb197, 0, none⟩ = some (.int .i64 0) := (kQC BK197.out 0).trans rfl
 have hfs8 := kQF BK197.out 0
 have hns8_0 := NB196_197.out
 have hms8_0 := NB197_196.out
 have hs9 : w6.cell? ⟨gb197, 1, none⟩ = some (.slice none 0 0) := (kQC BK197.out 1).trans rfl
 have hfs9 := kQF BK197.out 1
 have hns9_0 := NB196_197.out
 have hms9_0 := NB197_196.out
 refine skip_ (w1 := ?_) (by rfl) rfl ?_ ?_
 rotate_left
 ·go_simp
  rfl
 refine hK.out _ _ ⟨((cell_far (p := ⟨gb197, _, none⟩) NB196_197.out _).trans (((cell_far (p := ⟨gb197, _, none⟩) NB196_197.out _).trans (hHeld.1)))), ((cell_far (p := ⟨gb197, _, none⟩) NB196_197.out _).trans (((cell_far (p := ⟨gb197, _, none⟩) NB196_197.out _).trans (hHeld.2))))⟩ (fun hHeld => ?_)
 clear hK K
 refine done_ (by kernel_rfl) ?_
 try go_wp2
 refine bodyPost_ret (results_cell_row rfl _ _ gb197 26 #[.int .i64 a0_0, .slice Ao7 t198.length co7] (0, 0) _ rfl (by (with_reducible repeat (first | refine kQN ?_ _ | refine kQD ?_ | refine kQA ?_ _)); refine kQP (cs := #[.int .i64 a0_0, .slice none 0 0]) ?_ 1 _ rfl; (with_reducible repeat (first | refine kQN ?_ _ | refine kQD ?_ | refine kQA ?_ _)); refine kQP (cs := #[.int .i64 0, .slice none 0 0]) ?_ 0 _ rfl; (with_reducible repeat (first | refine kQN ?_ _ | refine kQD ?_ | refine kQA ?_ _)); exact BK197.out) Try.underlying26 rfl (by kernel_rfl)) rfl ?_
 exact ⟨_, by first | rfl | (simp [errW_none, errW_some] <;> rfl) | (simp [*, errW_none, errW_some] <;> rfl), by (with_reducible repeat (first | apply rA | apply rN | apply rD)); exact Kd.qbj (Kd.qbs (p := ⟨gb197, 1, none⟩) (Kd.qbs (p := ⟨gb197, 0, none⟩) (Kd.qbq HO200.out BK197.out (by decide)) (fun _ hk => hk.2) (.int .i64 a0_0)) (fun _ hk => hk.2) (.slice Ao7 t198.length co7)) (fun _ hk => trivial), by repeat (first | (with_reducible first | exact HB.out | apply bQA | apply bQN | apply bQ1 | refine bQS ?_ GE196.out | refine bQS ?_ GE197.out) | exact HB.out)⟩
end Go.Proofs.Ytbaicdgkpnbipaa.P
