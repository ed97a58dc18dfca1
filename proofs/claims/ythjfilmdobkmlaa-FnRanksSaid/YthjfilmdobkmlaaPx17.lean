/- Functions of the program and what they tell, as the printing program wrote it. -/
import Derived.Test.YthjfilmdobkmlaaPx0
import Derived.Test.YthjfilmdobkmlaaPx1
import Derived.Test.YthjfilmdobkmlaaPx13
import Derived.Test.YthjfilmdobkmlaaPx16
namespace Go.Proofs.Ythjfilmdobkmlaa.P
open Go.Shelf Go.RowKit Go.Proofs.YthjfilmdobkmlaaW.PrintWords Go.Proofs.YthjfilmdobkmlaaW.PrintLast Go.Proofs.YthjfilmdobkmlaaW.PrintMore
attribute [local go_sem] max2_int min2_int max_two min_two max_three min_three max_four min_four
set_option linter.unusedVariables false
set_option linter.unusedSimpArgs false
set_option maxHeartbeats 8000000
set_option maxRecDepth 100000
def impl_TurnMatrix.f (k : Nat) (a0_0 : Int) (l0_1 : List Int) : Option (Int × List Int × Int) := (impl_matricesCode_AT_impl_TurnMatrix_1.f k a0_0 l0_1 (([(⟨a0_0, l0_1⟩ : S27)] : List (S27)))).bind fun t294 => (if t294 = 0 then ((impl_Matrix_turned.f k a0_0 l0_1).bind fun bt295 => (some (bt295.1, bt295.2, 0))) else (some (0, ([] : List Int), t294)))
theorem impl_TurnMatrix.mono : ∀ a0 a1 k, LeO (impl_TurnMatrix.f k a0 a1) (impl_TurnMatrix.f (k + 1) a0 a1) := by
 intro a0 a1 k
 unfold impl_TurnMatrix.f
 repeat' first
  | (with_reducible first | apply impl_Matrix_turned.mono | apply impl_matricesCode_AT_impl_TurnMatrix_1.mono | exact LeO.refl _ | exact LeO.none _ | refine LeO.ite ?_ ?_ | refine LeO.bind ?_ (fun _ => ?_))
  | exact LeO.none _
  | refine LeO.ite ?_ ?_
  | refine LeO.bind ?_ (fun _ => ?_)
theorem impl_TurnMatrix.calls (k : Nat) (a0_0 : Int) (P0_1_ : Nat → Prop) (A0_1 : Option Addr) (c0_1 : Nat) (l0_1 : List Int) (r1 : Int) (r2 : List Int) (r3 : Int) (w : World) (hs0_1 : Kd.V (Kd.int .i64) 2 w w.heap.size (fun k_ => P0_1_ k_) (.slice A0_1 l0_1.length c0_1) l0_1) (h : impl_TurnMatrix.f k a0_0 l0_1 = some (r1, r2, r3)) :
 Calls Try.prog 17 #[.agg #[.int .i64 a0_0, .slice A0_1 l0_1.length c0_1]] w fun e w' => ∃ v1_ : Value, e = .returned (.tuple #[.agg #[.int .i64 r1, v1_], .int .i64 r3]) ∧ Kd.R (Kd.int .i64) 2 w' w.heap.size (fun k_ => (w.heap.size ≤ k_)) v1_ r2 ∧ Below w.heap.size w w' := by
 have hu27 := Try.underlying27
 have HO0_1 := Aq.mk (show Kd.V (Kd.int .i64) 2 w w.heap.size (fun k_ => (P0_1_ k_ ∨ w.heap.size ≤ k_)) (.slice A0_1 l0_1.length c0_1) l0_1 from Kd.V_mono hs0_1 (fun k_ hk => .inl hk))
 have HB := Aq.mk (Below.refl w.heap.size w)
 have H : ((impl_matricesCode_AT_impl_TurnMatrix_1.f k a0_0 l0_1 (([(⟨a0_0, l0_1⟩ : S27)] : List (S27)))).bind fun t294 => (if t294 = 0 then ((impl_Matrix_turned.f k a0_0 l0_1).bind fun bt295 => (some (bt295.1, bt295.2, 0))) else (some (0, ([] : List Int), t294)))) = some (r1, r2, r3) := h
 clear h
 obtain ⟨y291, hy291⟩ : ∃ y_ : List (S27), y_ = (([(⟨a0_0, l0_1⟩ : S27)] : List (S27))) := ⟨_, rfl⟩
 replace H : ((impl_matricesCode_AT_impl_TurnMatrix_1.f k a0_0 l0_1 y291).bind fun t294 => (if t294 = 0 then ((impl_Matrix_turned.f k a0_0 l0_1).bind fun bt295 => (some (bt295.1, bt295.2, 0))) else (some (0, ([] : List Int), t294)))) = some (r1, r2, r3) := by first | (rw [hy291]; with_reducible exact H) | (have H2_ := (Option.bind_some _ _).symm.trans H; rw [hy291]; with_reducible exact H2_) | (have H2_ := (Option.bind_some _ _).symm.trans H; with_reducible exact H2_) | with_reducible exact H | (rw [hy291]; exact H) | exact H
 have Ny291 := Aq.mk hy291
 clear hy291
 obtain ⟨t294, A2, H⟩ := qBd H
 by_cases c3 : t294 = 0
 rotate_left
 ·rw [if_neg c3] at H
  have c3b0 := beq_eq_false_iff_ne.mpr c3
  have c3b1 := bne_iff_ne.mpr c3
  simp only [Option.some.injEq, Prod.mk.injEq] at H
  obtain ⟨rfl, rfl, rfl⟩ := H
  go_enter Try.func17, Try.ntmps17
  go_wp2_with (first | ((with_reducible refine gQd (N := 1) rfl ?_); refine xQe ?hg (N := 1) ?hd (cs := #[.int .i64 a0_0, .slice A0_1 l0_1.length c0_1]) (t := 27) ?hr ?_; (case hd => rfl); (case hg => rfl); (case hr => exact tH); intro gb289 hg w17 hbox hb; refine qM5 (Kd.V_below (Kd.V_elderB (by (with_reducible repeat (first | apply Kd.V_alloc | apply Kd.V_drewN | apply Kd.V_drew)); exact HO0_1.out) gb289 (Nat.le_of_eq hg.symm)) hb) (bQT tB hb) hbox (tZ w hg) (tZ w hg) ?_; clear HO0_1 HB; intro HO0_1 HB BK289 GW289 GE289; clear hb hbox hg) | ((with_reducible refine gQd (N := 2) rfl ?_); refine xQe ?hg (N := 2) ?hd (cs := #[.int .i64 0, .slice none 0 0]) (t := 27) ?hr ?_; (case hd => rfl); (case hg => rfl); (case hr => exact tH); intro gb290 hg w18 hbox hb; refine qM8 (Kd.V_below (Kd.V_elderB (by (with_reducible repeat (first | apply Kd.V_alloc | apply Kd.V_drewN | apply Kd.V_drew)); exact HO0_1.out) gb290 (Nat.le_of_eq hg.symm)) hb) (tQ BK289.out hb) (bQT tB hb) hbox (tZ w hg) (tZ w hg) ((by rw [hg]; exact Nat.ne_of_lt (blk_lt (g := gb289) (o := .cells #[.int .i64 a0_0, .slice A0_1 l0_1.length c0_1] 27 (0, 0)) (tG BK289.out)) : gb289 ≠ gb290)) ((by rw [hg]; exact Nat.ne_of_gt (blk_lt (g := gb289) (o := .cells #[.int .i64 a0_0, .slice A0_1 l0_1.length c0_1] 27 (0, 0)) (tG BK289.out)) : gb290 ≠ gb289)) ?_; clear HO0_1 BK289 HB; intro HO0_1 BK289 HB BK290 GW290 GE290 NB289_290 NB290_289; clear hb hbox hg; have hnb19 := NB289_290.out; have hnc19 := NB290_289.out; have hcz20_0 : w18.cell? ⟨gb289, 0, none⟩ = some (.int .i64 a0_0) := (kQC BK289.out 0).trans rfl; have hcz20_1 : w18.cell? ⟨gb289, 1, none⟩ = some (.slice A0_1 l0_1.length c0_1) := (kQC BK289.out 1).trans rfl; have hfz20_0 := kQF BK289.out 0; have hfz20_1 := kQF BK289.out 1) | ((with_reducible refine gQd (N := 7) rfl ?_); refine Kd.N_lit k27 _ 27 ?hg (N' := 7) ?hd (xs := ([(⟨a0_0, l0_1⟩ : S27)] : List (S27))) (inner := [.int .i64 a0_0, .slice A0_1 l0_1.length c0_1]) (ok := (fun k_ => (P0_1_ k_ ∨ w.heap.size ≤ k_) ∧ k_ ≠ gb289 ∧ k_ ≠ gb290)) (okp := (fun k_ => (P0_1_ k_ ∨ w.heap.size ≤ k_) ∧ k_ ≠ gb289 ∧ k_ ≠ gb290)) ?hr ?hp (fun _ hk => hk) ((show ∀ k_, w18.heap.size ≤ k_ → (fun k_ => (P0_1_ k_ ∨ w.heap.size ≤ k_) ∧ k_ ≠ gb289 ∧ k_ ≠ gb290) k_ from fun k_ hk => ⟨(.inr (Nat.le_trans (bQZ tB) hk)), Kd.freshB (g := gb289) (o := .cells #[.int .i64 a0_0, .slice A0_1 l0_1.length c0_1] 27 (0, 0)) (tG BK289.out) k_ hk, Kd.freshB (g := gb290) (o := .cells #[.int .i64 0, .slice none 0 0] 27 (0, 0)) (tG BK290.out) k_ hk⟩) _ (Nat.le_refl _)) (Below.refl _ _) (Nat.le_refl _) (by simp) ?_; (case hd => rfl); (case hg => rfl); (case hr => exact tH); (case hp => exact (Reps.c2 (show Kd.FK k27 _ _ (⟨a0_0, l0_1⟩ : S27) [.int .i64 a0_0, .slice A0_1 l0_1.length c0_1] from (k27_mkF _ _ (⟨a0_0, l0_1⟩ : S27) (Kd.V_reads' (Kd.V_mono (ok' := (fun k_ => (P0_1_ k_ ∨ w.heap.size ≤ k_) ∧ k_ ≠ gb289 ∧ k_ ≠ gb290)) (HO0_1.out) (fun k_ hk => ⟨hk.1.1, ⟨hk.1.2, hk.2⟩⟩))).2.1 (Kd.V_F (Kd.V_mono (ok' := (fun k_ => (P0_1_ k_ ∨ w.heap.size ≤ k_) ∧ k_ ≠ gb289 ∧ k_ ≠ gb290)) (HO0_1.out) (fun k_ hk => ⟨hk.1.1, ⟨hk.1.2, hk.2⟩⟩))))) (Reps.none _ _))); intro v292 w21 ho22 hb hg_ hnew_; clear hg_ hnew_; (first | rw [← Ny291.out] at ho22 | (simp only [Int.reduceToNat] at ho22; rw [← Ny291.out] at ho22)); refine qM5 (Kd.V_elder' (by (with_reducible repeat (first | apply Kd.V_alloc | apply Kd.V_drewN | apply Kd.V_drew)); exact HO0_1.out) (Kd.N_base ho22) hb) (Kd.N_lower ho22 (bQZ tB)) (tQ BK289.out hb) (tQ BK290.out hb) (bQT tB hb) ?_; clear HO0_1 BK289 BK290 HB; intro HO0_1 HO293 BK289 BK290 HB; clear hb ho22; obtain ⟨Ao23, co23, eo23⟩ := Kd.N_slice HO293.out; subst eo23) | ((with_reducible refine gQc (f := 47) rfl ?_); refine goesL_ (some 8) rfl rfl Try.func47 (by kernel_rfl) rfl #[.func (.func 51) #[] #[.pointer (some ⟨gb289, 0, none⟩)], .slice Ao23 y291.length co23] rfl tL ?_; (with_reducible refine (impl_matricesCode_AT_impl_TurnMatrix_1.calls k (⟨gb289, 0, none⟩ : Addr) a0_0 A0_1 c0_1 l0_1 _ _ y291 t294 _ ?s1 ?s2 ?s3 ?s4 ?s5 A2.out).mono ?_); (case s1 => exact tC ((Kd.V_reads' HO0_1.out).2.2)); (case s2 => exact (Kd.V_reads' HO0_1.out).2.1); (case s3 => exact tC ((Kd.N_reads' HO293.out).2.2)); (case s4 => exact (Kd.N_reads' HO293.out).2.1); (case s5 => exact AtC.of_blk (g := gb289) (t := 27) (cs := #[.int .i64 a0_0, .slice A0_1 l0_1.length c0_1]) (tG BK289.out) rfl); rintro e w24 ⟨rfl, hb⟩; refine ⟨_, rfl, ?_⟩; refine qM5 (Kd.V_below (by (with_reducible repeat (first | apply Kd.V_alloc | apply Kd.V_drewN | apply Kd.V_drew)); exact HO0_1.out) hb) (Kd.N_below (by (with_reducible repeat (first | apply Kd.N_alloc | apply Kd.N_drewN | apply Kd.N_drew)); exact HO293.out) hb) (tQ BK289.out hb) (tQ BK290.out hb) (bQT tB hb) ?_; clear HO0_1 HO293 BK289 BK290 HB; intro HO0_1 HO293 BK289 BK290 HB; (try clear hb); (try clear hb2); (try clear hk); (try clear hi); have hcz25_0 : w24.cell? ⟨gb290, 0, none⟩ = some (.int .i64 0) := (kQC BK290.out 0).trans rfl; have hcz25_1 : w24.cell? ⟨gb290, 1, none⟩ = some (.slice none 0 0) := (kQC BK290.out 1).trans rfl; have hfz25_0 := kQF BK290.out 0; have hfz25_1 := kQF BK290.out 1))
  refine bodyPost_ret (results_ct rfl _ _ gb290 27 #[.int .i64 0, .slice none 0 0] (0, 0) _ rfl (by (with_reducible repeat (first | refine kQN ?_ _ | refine kQD ?_ | refine kQA ?_ _)); refine kQP (cs := #[.int .i64 0, .slice none 0 0]) ?_ 1 _ rfl; (with_reducible repeat (first | refine kQN ?_ _ | refine kQD ?_ | refine kQA ?_ _)); refine kQP (cs := #[.int .i64 0, .slice none 0 0]) ?_ 0 _ rfl; (with_reducible repeat (first | refine kQN ?_ _ | refine kQD ?_ | refine kQA ?_ _)); exact BK290.out) Try.underlying27 rfl (by kernel_rfl)) rfl ?_
  exact ⟨_, tE, by first | exact Kd.R_nil _ _ _ _ _ | exact Kd.N_nil _ _ _ _ _ | exact Kd.V_nil _ _ _ _ _ | exact Kd.Q_nil _ _ _ _ _ | exact Kd.S_nil _ _ _ _ _, tB⟩
 rw [if_pos c3] at H
 have c3b0 := beq_iff_eq.mpr c3
 have c3b1 := bne_eq_false_iff_eq.mpr c3
 clear c3
 obtain ⟨⟨t295, t296⟩, A4, H⟩ := qBd H
 (try dsimp only at H)
 simp only [Option.some.injEq, Prod.mk.injEq] at H
 obtain ⟨rfl, rfl, rfl⟩ := H
 go_enter Try.func17, Try.ntmps17
 go_wp2_with (first | ((with_reducible refine gQd (N := 1) rfl ?_); refine xQe ?hg (N := 1) ?hd (cs := #[.int .i64 a0_0, .slice A0_1 l0_1.length c0_1]) (t := 27) ?hr ?_; (case hd => rfl); (case hg => rfl); (case hr => exact tH); intro gb289 hg w5 hbox hb; refine qM5 (Kd.V_below (Kd.V_elderB (by (with_reducible repeat (first | apply Kd.V_alloc | apply Kd.V_drewN | apply Kd.V_drew)); exact HO0_1.out) gb289 (Nat.le_of_eq hg.symm)) hb) (bQT tB hb) hbox (tZ w hg) (tZ w hg) ?_; clear HO0_1 HB; intro HO0_1 HB BK289 GW289 GE289; clear hb hbox hg) | ((with_reducible refine gQd (N := 2) rfl ?_); refine xQe ?hg (N := 2) ?hd (cs := #[.int .i64 0, .slice none 0 0]) (t := 27) ?hr ?_; (case hd => rfl); (case hg => rfl); (case hr => exact tH); intro gb290 hg w6 hbox hb; refine qM8 (Kd.V_below (Kd.V_elderB (by (with_reducible repeat (first | apply Kd.V_alloc | apply Kd.V_drewN | apply Kd.V_drew)); exact HO0_1.out) gb290 (Nat.le_of_eq hg.symm)) hb) (tQ BK289.out hb) (bQT tB hb) hbox (tZ w hg) (tZ w hg) ((by rw [hg]; exact Nat.ne_of_lt (blk_lt (g := gb289) (o := .cells #[.int .i64 a0_0, .slice A0_1 l0_1.length c0_1] 27 (0, 0)) (tG BK289.out)) : gb289 ≠ gb290)) ((by rw [hg]; exact Nat.ne_of_gt (blk_lt (g := gb289) (o := .cells #[.int .i64 a0_0, .slice A0_1 l0_1.length c0_1] 27 (0, 0)) (tG BK289.out)) : gb290 ≠ gb289)) ?_; clear HO0_1 BK289 HB; intro HO0_1 BK289 HB BK290 GW290 GE290 NB289_290 NB290_289; clear hb hbox hg; have hnb7 := NB289_290.out; have hnc7 := NB290_289.out; have hcz8_0 : w6.cell? ⟨gb289, 0, none⟩ = some (.int .i64 a0_0) := (kQC BK289.out 0).trans rfl; have hcz8_1 : w6.cell? ⟨gb289, 1, none⟩ = some (.slice A0_1 l0_1.length c0_1) := (kQC BK289.out 1).trans rfl; have hfz8_0 := kQF BK289.out 0; have hfz8_1 := kQF BK289.out 1) | ((with_reducible refine gQd (N := 7) rfl ?_); refine Kd.N_lit k27 _ 27 ?hg (N' := 7) ?hd (xs := ([(⟨a0_0, l0_1⟩ : S27)] : List (S27))) (inner := [.int .i64 a0_0, .slice A0_1 l0_1.length c0_1]) (ok := (fun k_ => (P0_1_ k_ ∨ w.heap.size ≤ k_) ∧ k_ ≠ gb289 ∧ k_ ≠ gb290)) (okp := (fun k_ => (P0_1_ k_ ∨ w.heap.size ≤ k_) ∧ k_ ≠ gb289 ∧ k_ ≠ gb290)) ?hr ?hp (fun _ hk => hk) ((show ∀ k_, w6.heap.size ≤ k_ → (fun k_ => (P0_1_ k_ ∨ w.heap.size ≤ k_) ∧ k_ ≠ gb289 ∧ k_ ≠ gb290) k_ from fun k_ hk => ⟨(.inr (Nat.le_trans (bQZ tB) hk)), Kd.freshB (g := gb289) (o := .cells #[.int .i64 a0_0, .slice A0_1 l0_1.length c0_1] 27 (0, 0)) (tG BK289.out) k_ hk, Kd.freshB (g := gb290) (o := .cells #[.int .i64 0, .slice none 0 0] 27 (0, 0)) (tG BK290.out) k_ hk⟩) _ (Nat.le_refl _)) (Below.refl _ _) (Nat.le_refl _) (by simp) ?_; (case hd => rfl); (case hg => rfl); (case hr => exact tH); (case hp => exact (Reps.c2 (show Kd.FK k27 _ _ (⟨a0_0, l0_1⟩ : S27) [.int .i64 a0_0, .slice A0_1 l0_1.length c0_1] from (k27_mkF _ _ (⟨a0_0, l0_1⟩ : S27) (Kd.V_reads' (Kd.V_mono (ok' := (fun k_ => (P0_1_ k_ ∨ w.heap.size ≤ k_) ∧ k_ ≠ gb289 ∧ k_ ≠ gb290)) (HO0_1.out) (fun k_ hk => ⟨hk.1.1, ⟨hk.1.2, hk.2⟩⟩))).2.1 (Kd.V_F (Kd.V_mono (ok' := (fun k_ => (P0_1_ k_ ∨ w.heap.size ≤ k_) ∧ k_ ≠ gb289 ∧ k_ ≠ gb290)) (HO0_1.out) (fun k_ hk => ⟨hk.1.1, ⟨hk.1.2, hk.2⟩⟩))))) (Reps.none _ _))); intro v292 w9 ho10 hb hg_ hnew_; clear hg_ hnew_; (first | rw [← Ny291.out] at ho10 | (simp only [Int.reduceToNat] at ho10; rw [← Ny291.out] at ho10)); refine qM5 (Kd.V_elder' (by (with_reducible repeat (first | apply Kd.V_alloc | apply Kd.V_drewN | apply Kd.V_drew)); exact HO0_1.out) (Kd.N_base ho10) hb) (Kd.N_lower ho10 (bQZ tB)) (tQ BK289.out hb) (tQ BK290.out hb) (bQT tB hb) ?_; clear HO0_1 BK289 BK290 HB; intro HO0_1 HO293 BK289 BK290 HB; clear hb ho10; obtain ⟨Ao11, co11, eo11⟩ := Kd.N_slice HO293.out; subst eo11) | ((with_reducible refine gQc (f := 47) rfl ?_); refine goesL_ (some 8) rfl rfl Try.func47 (by kernel_rfl) rfl #[.func (.func 51) #[] #[.pointer (some ⟨gb289, 0, none⟩)], .slice Ao11 y291.length co11] rfl tL ?_; (with_reducible refine (impl_matricesCode_AT_impl_TurnMatrix_1.calls k (⟨gb289, 0, none⟩ : Addr) a0_0 A0_1 c0_1 l0_1 _ _ y291 t294 _ ?s1 ?s2 ?s3 ?s4 ?s5 A2.out).mono ?_); (case s1 => exact tC ((Kd.V_reads' HO0_1.out).2.2)); (case s2 => exact (Kd.V_reads' HO0_1.out).2.1); (case s3 => exact tC ((Kd.N_reads' HO293.out).2.2)); (case s4 => exact (Kd.N_reads' HO293.out).2.1); (case s5 => exact AtC.of_blk (g := gb289) (t := 27) (cs := #[.int .i64 a0_0, .slice A0_1 l0_1.length c0_1]) (tG BK289.out) rfl); rintro e w12 ⟨rfl, hb⟩; refine ⟨_, rfl, ?_⟩; refine qM5 (Kd.V_below (by (with_reducible repeat (first | apply Kd.V_alloc | apply Kd.V_drewN | apply Kd.V_drew)); exact HO0_1.out) hb) (Kd.N_below (by (with_reducible repeat (first | apply Kd.N_alloc | apply Kd.N_drewN | apply Kd.N_drew)); exact HO293.out) hb) (tQ BK289.out hb) (tQ BK290.out hb) (bQT tB hb) ?_; clear HO0_1 HO293 BK289 BK290 HB; intro HO0_1 HO293 BK289 BK290 HB; (try clear hb); (try clear hb2); (try clear hk); (try clear hi); have hcz13_0 : w12.cell? ⟨gb289, 0, none⟩ = some (.int .i64 a0_0) := (kQC BK289.out 0).trans rfl; have hcz13_1 : w12.cell? ⟨gb289, 1, none⟩ = some (.slice A0_1 l0_1.length c0_1) := (kQC BK289.out 1).trans rfl; have hfz13_0 := kQF BK289.out 0; have hfz13_1 := kQF BK289.out 1) | ((with_reducible refine gQc (f := 52) rfl ?_); refine goesL_ (some 14) rfl rfl Try.func52 (by kernel_rfl) rfl #[.agg #[.int .i64 a0_0, .slice A0_1 l0_1.length c0_1]] rfl tL ?_; (with_reducible refine (impl_Matrix_turned.calls k a0_0 _ _ l0_1 t295 t296 _ ?s1 ?s2 A4.out).mono ?_); (case s1 => exact tC ((Kd.V_reads' HO0_1.out).2.2)); (case s2 => exact (Kd.V_reads' HO0_1.out).2.1); rintro e w14 ⟨v297, rfl, ho0, hb⟩; refine ⟨_, rfl, ?_⟩; refine qM6 (Kd.V_elder' (by (with_reducible repeat (first | apply Kd.V_alloc | apply Kd.V_drewN | apply Kd.V_drew)); exact HO0_1.out) (Kd.R_base ho0) hb) (Kd.N_elder' (by (with_reducible repeat (first | apply Kd.N_alloc | apply Kd.N_drewN | apply Kd.N_drew)); exact HO293.out) (Kd.R_base ho0) hb) (Kd.R_lower (Kd.R_newM (M := fun k_ => (w.heap.size ≤ k_)) ho0 (bQZ tB) (fun k_ h_ => h_)) (bQZ tB)) (tQ BK289.out hb) (tQ BK290.out hb) (bQT tB hb) ?_; clear HO0_1 HO293 BK289 BK290 HB; intro HO0_1 HO293 HO298 BK289 BK290 HB; (try clear hb); (try clear hb2); (try clear hk); (try clear hi); (try clear ho0); have hcz15_0 : w14.cell? ⟨gb290, 0, none⟩ = some (.int .i64 0) := (kQC BK290.out 0).trans rfl; have hcz15_1 : w14.cell? ⟨gb290, 1, none⟩ = some (.slice none 0 0) := (kQC BK290.out 1).trans rfl; have hfz15_0 := kQF BK290.out 0; have hfz15_1 := kQF BK290.out 1; obtain ⟨Ao16, co16, eo16⟩ := Kd.R_slice HO298.out; subst eo16))
 refine bodyPost_ret (results_ct rfl _ _ gb290 27 #[.int .i64 t295, .slice Ao16 t296.length co16] (0, 0) _ rfl (by (with_reducible repeat (first | refine kQN ?_ _ | refine kQD ?_ | refine kQA ?_ _)); refine kQP (cs := #[.int .i64 t295, .slice none 0 0]) ?_ 1 _ rfl; (with_reducible repeat (first | refine kQN ?_ _ | refine kQD ?_ | refine kQA ?_ _)); refine kQP (cs := #[.int .i64 0, .slice none 0 0]) ?_ 0 _ rfl; (with_reducible repeat (first | refine kQN ?_ _ | refine kQD ?_ | refine kQA ?_ _)); exact BK290.out) Try.underlying27 rfl (by kernel_rfl)) rfl ?_
 exact ⟨_, tE, by (with_reducible repeat (first | apply Kd.RqA | apply Kd.RqN | apply Kd.RqD)); exact Kd.R_mono (Kd.R_far (p := ⟨gb290, 1, none⟩) (Kd.R_far (p := ⟨gb290, 0, none⟩) (Kd.R_types HO298.out BK290.out (by decide)) (fun _ hk => hk.2) (.int .i64 t295)) (fun _ hk => hk.2) (.slice Ao16 t296.length co16)) (fun _ hk => hk.1.1), tB⟩
def impl_MulMatrices_1.f (a0_0 : Int) (l0_1 : List Int) (a1_0 : Int) (l1_1 : List Int) : Option (Bool) := (impl_size_int64.f l1_1).bind fun t308 => (some (a0_0 == t308))
theorem impl_MulMatrices_1.calls (g0_0 : Addr) (a0_0 : Int) (A0_1 : Option Addr) (c0_1 : Nat) (l0_1 : List Int) (g1_0 : Addr) (a1_0 : Int) (A1_1 : Option Addr) (c1_1 : Nat) (l1_1 : List Int) (r : Bool) (w : World) (hr0_1 : Kd.C (Kd.int .i64) w A0_1 l0_1.length l0_1) (hc0_1 : l0_1.length ≤ c0_1) (hr1_1 : Kd.C (Kd.int .i64) w A1_1 l1_1.length l1_1) (hc1_1 : l1_1.length ≤ c1_1) (hb0_0 : AtC w g0_0 [.int .i64 a0_0, .slice A0_1 l0_1.length c0_1]) (hb1_0 : AtC w g1_0 [.int .i64 a1_0, .slice A1_1 l1_1.length c1_1]) (h : impl_MulMatrices_1.f a0_0 l0_1 a1_0 l1_1 = some r) :
 Calls Try.prog 53 #[.pointer (some g0_0), .pointer (some g1_0)] w fun e w' => e = .returned (.bool r) ∧ Dq w w' := by
 have HR0_1 := Aq.mk hr0_1
 have HC0_1 := Aq.mk hc0_1
 clear hr0_1 hc0_1
 have HR1_1 := Aq.mk hr1_1
 have HC1_1 := Aq.mk hc1_1
 clear hr1_1 hc1_1
 have BK40 := Aq.mk hb0_0
 clear hb0_0
 have BK48 := Aq.mk hb1_0
 clear hb1_0
 have H : ((impl_size_int64.f l1_1).bind fun t308 => (some (a0_0 == t308))) = some r := h
 clear h
 obtain ⟨t308, A3, H⟩ := qBd H
 obtain rfl := Option.some.inj H
 have hcz4_0 : w.cell? g0_0 = some (.int .i64 a0_0) := AtC.cell0 BK40.out _ rfl
 have hcz4_1 : w.cell? ⟨g0_0.block, g0_0.off + 1, none⟩ = some (.slice A0_1 l0_1.length c0_1) := AtC.cell BK40.out 1 _ (by decide) rfl
 have hcz5_0 : w.cell? g1_0 = some (.int .i64 a1_0) := AtC.cell0 BK48.out _ rfl
 have hcz5_1 : w.cell? ⟨g1_0.block, g1_0.off + 1, none⟩ = some (.slice A1_1 l1_1.length c1_1) := AtC.cell BK48.out 1 _ (by decide) rfl
 go_enter Try.func53, Try.ntmps53
 go_wp2_with (first | (go_at_call 41; (with_reducible refine (impl_size_int64.calls _ _ l1_1 t308 _ ?s1 ?s2 A3.out).mono ?_); (case s1 => exact tC HR1_1.out); (case s2 => exact HC1_1.out); rintro e w' ⟨rfl, ⟨nd, rfl⟩⟩; (try exact tW)))
 repeat (go_quiet (first | (go_at_call 41; (with_reducible refine (impl_size_int64.calls _ _ l1_1 t308 _ ?s1 ?s2 A3.out).mono ?_); (case s1 => exact tC HR1_1.out); (case s2 => exact HC1_1.out); rintro e w' ⟨rfl, ⟨nd, rfl⟩⟩; (try exact tW))); try go_wp2_with (first | (go_at_call 41; (with_reducible refine (impl_size_int64.calls _ _ l1_1 t308 _ ?s1 ?s2 A3.out).mono ?_); (case s1 => exact tC HR1_1.out); (case s2 => exact HC1_1.out); rintro e w' ⟨rfl, ⟨nd, rfl⟩⟩; (try exact tW))))
 go_ret
 exact ⟨tS, tD⟩
def impl_matricesCode_AT_impl_MulMatrices_1.f (k : Nat) (a0_0 : Int) (l0_1 : List Int) (a0_2 : Int) (l0_3 : List Int) (l1 : List (S27)) : Option (Int) := (impl_Matrix_AT_impl_matricesCode_1_89.f k l1).bind fun t309 => (if t309 = true then (some 1) else ((impl_MulMatrices_1.f a0_0 l0_1 a0_2 l0_3).bind fun t310 => (if t310 = true then (some 0) else (some 2))))
theorem impl_matricesCode_AT_impl_MulMatrices_1.mono : ∀ a0 a1 a2 a3 a4 k, LeO (impl_matricesCode_AT_impl_MulMatrices_1.f k a0 a1 a2 a3 a4) (impl_matricesCode_AT_impl_MulMatrices_1.f (k + 1) a0 a1 a2 a3 a4) := by
 intro a0 a1 a2 a3 a4 k
 unfold impl_matricesCode_AT_impl_MulMatrices_1.f
 repeat' first
  | (with_reducible first | apply impl_Matrix_AT_impl_matricesCode_1_89.mono | exact LeO.refl _ | exact LeO.none _ | refine LeO.ite ?_ ?_ | refine LeO.bind ?_ (fun _ => ?_))
  | exact LeO.none _
  | refine LeO.ite ?_ ?_
  | refine LeO.bind ?_ (fun _ => ?_)
theorem impl_matricesCode_AT_impl_MulMatrices_1.calls (k : Nat) (g0_0 : Addr) (g0_1 : Addr) (a0_0 : Int) (A0_1 : Option Addr) (c0_1 : Nat) (l0_1 : List Int) (a0_2 : Int) (A0_3 : Option Addr) (c0_3 : Nat) (l0_3 : List Int) (A1 : Option Addr) (c1 : Nat) (l1 : List (S27)) (r : Int) (w : World) (hr0_1 : Kd.C (Kd.int .i64) w A0_1 l0_1.length l0_1) (hc0_1 : l0_1.length ≤ c0_1) (hr0_3 : Kd.C (Kd.int .i64) w A0_3 l0_3.length l0_3) (hc0_3 : l0_3.length ≤ c0_3) (hr1 : Kd.C k27 w A1 l1.length l1) (hc1 : l1.length ≤ c1) (hb0_0 : AtC w g0_0 [.int .i64 a0_0, .slice A0_1 l0_1.length c0_1]) (hb0_1 : AtC w g0_1 [.int .i64 a0_2, .slice A0_3 l0_3.length c0_3]) (h : impl_matricesCode_AT_impl_MulMatrices_1.f k a0_0 l0_1 a0_2 l0_3 l1 = some r) :
 Calls Try.prog 47 #[.func (.func 53) #[] #[.pointer (some g0_0), .pointer (some g0_1)], .slice A1 l1.length c1] w fun e w' => e = .returned (.int .i64 r) ∧ Below w.heap.size w w' := by
 have eg53 : ∀ (args_ : Array Value) (w_ : World), (callFunc 53 args_).run Try.prog w_ = .ok (.enter 53 args_) w_ := enters_of Try.func53 (by kernel_rfl) rfl
 have HR0_1 := Aq.mk hr0_1
 have HC0_1 := Aq.mk hc0_1
 clear hr0_1 hc0_1
 have HR0_3 := Aq.mk hr0_3
 have HC0_3 := Aq.mk hc0_3
 clear hr0_3 hc0_3
 have HR1 := Aq.mk hr1
 have HC1 := Aq.mk hc1
 clear hr1 hc1
 have BK40 := Aq.mk hb0_0
 clear hb0_0
 have BK41 := Aq.mk hb0_1
 clear hb0_1
 have HB := Aq.mk (Below.refl w.heap.size w)
 have H : ((impl_Matrix_AT_impl_matricesCode_1_89.f k l1).bind fun t309 => (if t309 = true then (some 1) else ((impl_MulMatrices_1.f a0_0 l0_1 a0_2 l0_3).bind fun t310 => (if t310 = true then (some 0) else (some 2))))) = some r := h
 clear h
 obtain ⟨t309, A3, H⟩ := qBd H
 by_cases c4 : t309 = true
 ·subst c4
  rw [if_pos rfl] at H
  obtain rfl := Option.some.inj H
  go_enter Try.func47, Try.ntmps47
  go_wp2_with (first | ((with_reducible refine gQc (f := 89) rfl ?_); refine goesL_ (some 7) rfl rfl Try.func89 (by kernel_rfl) rfl #[.slice A1 l1.length c1, .func (.func 90) #[] #[]] rfl tL ?_; (with_reducible refine (impl_Matrix_AT_impl_matricesCode_1_89.calls k _ _ l1  true _ ?s1 ?s2 A3.out).mono ?_); (case s1 => exact tC HR1.out); (case s2 => exact HC1.out); rintro e w5 ⟨rfl, hb⟩; refine ⟨_, rfl, ?_⟩; refine qM1 (bQT tB hb) ?_; clear HB; intro HB; (try clear hb); (try clear hb2); (try clear hk); (try clear hi)))
  go_ret
  exact ⟨tE, tB⟩
 replace c4 := Bool.eq_false_iff.mpr c4
 subst c4
 rw [if_neg (show ¬ (false = true) by decide)] at H
 obtain ⟨t310, A6, H⟩ := qBd H
 by_cases c7 : t310 = true
 ·subst c7
  rw [if_pos rfl] at H
  obtain rfl := Option.some.inj H
  go_enter Try.func47, Try.ntmps47
  go_wp2_with (first | ((with_reducible refine gQc (f := 89) rfl ?_); refine goesL_ (some 7) rfl rfl Try.func89 (by kernel_rfl) rfl #[.slice A1 l1.length c1, .func (.func 90) #[] #[]] rfl tL ?_; (with_reducible refine (impl_Matrix_AT_impl_matricesCode_1_89.calls k _ _ l1  false _ ?s1 ?s2 A3.out).mono ?_); (case s1 => exact tC HR1.out); (case s2 => exact HC1.out); rintro e w8 ⟨rfl, hb⟩; refine ⟨_, rfl, ?_⟩; refine qM1 (bQT tB hb) ?_; clear HB; intro HB; (try clear hb); (try clear hb2); (try clear hk); (try clear hi)) | (go_at_fn 53; (with_reducible refine (impl_MulMatrices_1.calls (g0_0 : Addr) a0_0 A0_1 c0_1 l0_1 (g0_1 : Addr) a0_2 A0_3 c0_3 l0_3 true _ ?s1 ?s2 ?s3 ?s4 ?s5 ?s6 A6.out).mono ?_); (case s1 => exact tC ((Kd.C_below HR0_1.out HB.out))); (case s2 => exact HC0_1.out); (case s3 => exact tC ((Kd.C_below HR0_3.out HB.out))); (case s4 => exact HC0_3.out); (case s5 => repeat (first | exact (AtC.below BK40.out HB.out) | (with_reducible refine AtC.alloc ?_ _) | (with_reducible refine AtC.drewN ?_ _) | (with_reducible refine AtC.drew ?_))); (case s6 => repeat (first | exact (AtC.below BK41.out HB.out) | (with_reducible refine AtC.alloc ?_ _) | (with_reducible refine AtC.drewN ?_ _) | (with_reducible refine AtC.drew ?_))); rintro e w' ⟨rfl, ⟨nd, rfl⟩⟩))
  go_ret
  exact ⟨tE, tB⟩
 replace c7 := Bool.eq_false_iff.mpr c7
 subst c7
 rw [if_neg (show ¬ (false = true) by decide)] at H
 obtain rfl := Option.some.inj H
 go_enter Try.func47, Try.ntmps47
 go_wp2_with (first | ((with_reducible refine gQc (f := 89) rfl ?_); refine goesL_ (some 7) rfl rfl Try.func89 (by kernel_rfl) rfl #[.slice A1 l1.length c1, .func (.func 90) #[] #[]] rfl tL ?_; (with_reducible refine (impl_Matrix_AT_impl_matricesCode_1_89.calls k _ _ l1  false _ ?s1 ?s2 A3.out).mono ?_); (case s1 => exact tC HR1.out); (case s2 => exact HC1.out); rintro e w9 ⟨rfl, hb⟩; refine ⟨_, rfl, ?_⟩; refine qM1 (bQT tB hb) ?_; clear HB; intro HB; (try clear hb); (try clear hb2); (try clear hk); (try clear hi)) | (go_at_fn 53; (with_reducible refine (impl_MulMatrices_1.calls (g0_0 : Addr) a0_0 A0_1 c0_1 l0_1 (g0_1 : Addr) a0_2 A0_3 c0_3 l0_3 false _ ?s1 ?s2 ?s3 ?s4 ?s5 ?s6 A6.out).mono ?_); (case s1 => exact tC ((Kd.C_below HR0_1.out HB.out))); (case s2 => exact HC0_1.out); (case s3 => exact tC ((Kd.C_below HR0_3.out HB.out))); (case s4 => exact HC0_3.out); (case s5 => repeat (first | exact (AtC.below BK40.out HB.out) | (with_reducible refine AtC.alloc ?_ _) | (with_reducible refine AtC.drewN ?_ _) | (with_reducible refine AtC.drew ?_))); (case s6 => repeat (first | exact (AtC.below BK41.out HB.out) | (with_reducible refine AtC.alloc ?_ _) | (with_reducible refine AtC.drewN ?_ _) | (with_reducible refine AtC.drew ?_))); rintro e w' ⟨rfl, ⟨nd, rfl⟩⟩))
 go_ret
 exact ⟨tE, tB⟩
end Go.Proofs.Ythjfilmdobkmlaa.P
