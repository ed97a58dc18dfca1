/- Functions of the program and what they tell, as the printing program wrote it. -/
import Derived.Test.YthjfilmdobkmlaaPx0
import Derived.Test.YthjfilmdobkmlaaPx18
namespace Go.Proofs.Ythjfilmdobkmlaa.P
open Go.Shelf Go.RowKit Go.Proofs.YthjfilmdobkmlaaW.PrintWords Go.Proofs.YthjfilmdobkmlaaW.PrintLast Go.Proofs.YthjfilmdobkmlaaW.PrintMore
attribute [local go_sem] max2_int min2_int max_two min_two max_three min_three max_four min_four
set_option linter.unusedVariables false
set_option linter.unusedSimpArgs false
set_option maxHeartbeats 8000000
set_option maxRecDepth 100000
def impl_AddMatrices.l0 : Nat → List Int → Int → Int → Int → List Int → Int → List Int → Option (Int × List Int × Int)
  | 0, _, _, _, _, _, _, _ => none
  | k + 1, x23, x24, x25, x326000, x326001, x332000, x332001 => if x25 < x24 then (if 0 ≤ x25 then (if x25 < (x23.length : Int) then (if x25 < (x326001.length : Int) then (if x332001.length < 17592186044416 then (impl_AddMatrices.l0 k x23 x24 (wrap64 (x25 + 1)) x326000 x326001 x332000 (x332001 ++ [Go.bits .xor .i64 (rd x23 x25) (rd x326001 x25)])) else (none)) else (none)) else (none)) else (none)) else (some (x332000, x332001, 0))
def impl_AddMatrices.f (k : Nat) (a0_0 : Int) (l0_1 : List Int) (a1_0 : Int) (l1_1 : List Int) : Option (Int × List Int × Int) := (impl_matricesCode_AT_impl_AddMatrices_1.f k a0_0 l0_1 a1_0 l1_1 (([(⟨a0_0, l0_1⟩ : S27), (⟨a1_0, l1_1⟩ : S27)] : List (S27)))).bind fun t330 => (if t330 = 0 then (impl_AddMatrices.l0 k l0_1 (l0_1.length : Int) 0 a1_0 l1_1 a0_0 ([] : List Int)) else (some (0, ([] : List Int), t330)))
theorem impl_AddMatrices.mono_l : ∀ k, (∀ y0 y1 y2 y3 y4 y5 y6, LeO (impl_AddMatrices.l0 k y0 y1 y2 y3 y4 y5 y6) (impl_AddMatrices.l0 (k + 1) y0 y1 y2 y3 y4 y5 y6))
 | 0 => fun _ _ _ _ _ _ _ r h => by simp [impl_AddMatrices.l0] at h
 | k + 1 => by
  have ih0 := impl_AddMatrices.mono_l k
  ·intro y0 y1 y2 y3 y4 y5 y6
   unfold impl_AddMatrices.l0
   repeat' first
   | (with_reducible first | apply ih0 | apply impl_matricesCode_AT_impl_AddMatrices_1.mono | exact LeO.refl _ | exact LeO.none _ | refine LeO.ite ?_ ?_ | refine LeO.bind ?_ (fun _ => ?_))
   | exact LeO.none _
   | refine LeO.ite ?_ ?_
   | refine LeO.bind ?_ (fun _ => ?_)
theorem impl_AddMatrices.mono : ∀ a0 a1 a2 a3 k, LeO (impl_AddMatrices.f k a0 a1 a2 a3) (impl_AddMatrices.f (k + 1) a0 a1 a2 a3) := by
 intro a0 a1 a2 a3 k
 have ih0 := impl_AddMatrices.mono_l k
 unfold impl_AddMatrices.f
 repeat' first
  | (with_reducible first | apply ih0 | apply impl_matricesCode_AT_impl_AddMatrices_1.mono | exact LeO.refl _ | exact LeO.none _ | refine LeO.ite ?_ ?_ | refine LeO.bind ?_ (fun _ => ?_))
  | exact LeO.none _
  | refine LeO.ite ?_ ?_
  | refine LeO.bind ?_ (fun _ => ?_)
def impl_AddMatrices.T8 : Bool × List (List Nat × List Nat) := (true, [([], []), ([0], [0]), ([], []), ([], []), ([3], [3]), ([], []), ([4, 5], [4, 5]), ([6], [6]), ([2, 7], [2, 7]), ([8], [8]), ([1, 9], [1, 9]), ([0, 1, 2, 3, 4, 5, 6, 7, 8, 9, 10], []), ([11, 10, 10, 0, 1, 2, 3, 4, 5, 6, 7, 8, 9, 10], [10, 11])])
def impl_AddMatrices.B8 : List Nat := [0, 1, 0, 0, 8, 0, 56, 120, 252, 508, 1023, 2047, 4095]
theorem impl_AddMatrices.tab8 : rtab .any (opsOf Try.f19 8) = impl_AddMatrices.T8 := by kernel_rfl
theorem impl_AddMatrices.bits8 : waitsOk impl_AddMatrices.T8.2 impl_AddMatrices.B8 = true := by kernel_rfl
theorem impl_AddMatrices.calls (k : Nat) (a0_0 : Int) (P0_1_ : Nat → Prop) (A0_1 : Option Addr) (c0_1 : Nat) (l0_1 : List Int) (a1_0 : Int) (P1_1_ : Nat → Prop) (A1_1 : Option Addr) (c1_1 : Nat) (l1_1 : List Int) (r1 : Int) (r2 : List Int) (r3 : Int) (w : World) (hs0_1 : Kd.V (Kd.int .i64) 2 w w.heap.size (fun k_ => P0_1_ k_) (.slice A0_1 l0_1.length c0_1) l0_1) (hs1_1 : Kd.V (Kd.int .i64) 2 w w.heap.size (fun k_ => P1_1_ k_) (.slice A1_1 l1_1.length c1_1) l1_1) (h : impl_AddMatrices.f k a0_0 l0_1 a1_0 l1_1 = some (r1, r2, r3)) :
 Calls Try.prog 19 #[.agg #[.int .i64 a0_0, .slice A0_1 l0_1.length c0_1], .agg #[.int .i64 a1_0, .slice A1_1 l1_1.length c1_1]] w fun e w' => ∃ v1_ : Value, e = .returned (.tuple #[.agg #[.int .i64 r1, v1_], .int .i64 r3]) ∧ Kd.R (Kd.int .i64) 2 w' w.heap.size (fun k_ => (w.heap.size ≤ k_)) v1_ r2 ∧ Below w.heap.size w w' := by
 have hu27 := Try.underlying27
 have HO0_1 := Aq.mk (show Kd.V (Kd.int .i64) 2 w w.heap.size (fun k_ => ((P0_1_ k_ ∨ P1_1_ k_) ∨ w.heap.size ≤ k_)) (.slice A0_1 l0_1.length c0_1) l0_1 from Kd.V_mono hs0_1 (fun k_ hk => .inl (.inl hk)))
 have HO1_1 := Aq.mk (show Kd.V (Kd.int .i64) 2 w w.heap.size (fun k_ => ((P0_1_ k_ ∨ P1_1_ k_) ∨ w.heap.size ≤ k_)) (.slice A1_1 l1_1.length c1_1) l1_1 from Kd.V_mono hs1_1 (fun k_ hk => .inl (.inr hk)))
 have HB := Aq.mk (Below.refl w.heap.size w)
 have H : ((impl_matricesCode_AT_impl_AddMatrices_1.f k a0_0 l0_1 a1_0 l1_1 (([(⟨a0_0, l0_1⟩ : S27), (⟨a1_0, l1_1⟩ : S27)] : List (S27)))).bind fun t330 => (if t330 = 0 then (impl_AddMatrices.l0 k l0_1 (l0_1.length : Int) 0 a1_0 l1_1 a0_0 ([] : List Int)) else (some (0, ([] : List Int), t330)))) = some (r1, r2, r3) := h
 clear h
 obtain ⟨y327, hy327⟩ : ∃ y_ : List (S27), y_ = (([(⟨a0_0, l0_1⟩ : S27), (⟨a1_0, l1_1⟩ : S27)] : List (S27))) := ⟨_, rfl⟩
 replace H : ((impl_matricesCode_AT_impl_AddMatrices_1.f k a0_0 l0_1 a1_0 l1_1 y327).bind fun t330 => (if t330 = 0 then (impl_AddMatrices.l0 k l0_1 (l0_1.length : Int) 0 a1_0 l1_1 a0_0 ([] : List Int)) else (some (0, ([] : List Int), t330)))) = some (r1, r2, r3) := by first | (rw [hy327]; with_reducible exact H) | (have H2_ := (Option.bind_some _ _).symm.trans H; rw [hy327]; with_reducible exact H2_) | (have H2_ := (Option.bind_some _ _).symm.trans H; with_reducible exact H2_) | with_reducible exact H | (rw [hy327]; exact H) | exact H
 have Ny327 := Aq.mk hy327
 clear hy327
 obtain ⟨t330, A3, H⟩ := qBd H
 by_cases c4 : t330 = 0
 rotate_left
 ·rw [if_neg c4] at H
  have c4b0 := beq_eq_false_iff_ne.mpr c4
  have c4b1 := bne_iff_ne.mpr c4
  simp only [Option.some.injEq, Prod.mk.injEq] at H
  obtain ⟨rfl, rfl, rfl⟩ := H
  go_enter Try.func19, Try.ntmps19
  go_wp2_with (first | ((with_reducible refine gQd (N := 2) rfl ?_); refine xQe ?hg (N := 2) ?hd (cs := #[.int .i64 a0_0, .slice A0_1 l0_1.length c0_1]) (t := 27) ?hr ?_; (case hd => rfl); (case hg => rfl); (case hr => exact tH); intro gb324 hg w41 hbox hb; refine qM6 (Kd.V_below (Kd.V_elderB (by (with_reducible repeat (first | apply Kd.V_alloc | apply Kd.V_drewN | apply Kd.V_drew)); exact HO0_1.out) gb324 (Nat.le_of_eq hg.symm)) hb) (Kd.V_below (Kd.V_elderB (by (with_reducible repeat (first | apply Kd.V_alloc | apply Kd.V_drewN | apply Kd.V_drew)); exact HO1_1.out) gb324 (Nat.le_of_eq hg.symm)) hb) (bQT tB hb) hbox (tZ w hg) (tZ w hg) ?_; clear HO0_1 HO1_1 HB; intro HO0_1 HO1_1 HB BK324 GW324 GE324; clear hb hbox hg) | ((with_reducible refine gQd (N := 3) rfl ?_); refine xQe ?hg (N := 3) ?hd (cs := #[.int .i64 a1_0, .slice A1_1 l1_1.length c1_1]) (t := 27) ?hr ?_; (case hd => rfl); (case hg => rfl); (case hr => exact tH); intro gb325 hg w42 hbox hb; refine qM9 (Kd.V_below (Kd.V_elderB (by (with_reducible repeat (first | apply Kd.V_alloc | apply Kd.V_drewN | apply Kd.V_drew)); exact HO0_1.out) gb325 (Nat.le_of_eq hg.symm)) hb) (Kd.V_below (Kd.V_elderB (by (with_reducible repeat (first | apply Kd.V_alloc | apply Kd.V_drewN | apply Kd.V_drew)); exact HO1_1.out) gb325 (Nat.le_of_eq hg.symm)) hb) (tQ BK324.out hb) (bQT tB hb) hbox (tZ w hg) (tZ w hg) ((by rw [hg]; exact Nat.ne_of_lt (blk_lt (g := gb324) (o := .cells #[.int .i64 a0_0, .slice A0_1 l0_1.length c0_1] 27 (0, 0)) (tG BK324.out)) : gb324 ≠ gb325)) ((by rw [hg]; exact Nat.ne_of_gt (blk_lt (g := gb324) (o := .cells #[.int .i64 a0_0, .slice A0_1 l0_1.length c0_1] 27 (0, 0)) (tG BK324.out)) : gb325 ≠ gb324)) ?_; clear HO0_1 HO1_1 BK324 HB; intro HO0_1 HO1_1 BK324 HB BK325 GW325 GE325 NB324_325 NB325_324; clear hb hbox hg) | ((with_reducible refine gQd (N := 4) rfl ?_); refine xQe ?hg (N := 4) ?hd (cs := #[.int .i64 0, .slice none 0 0]) (t := 27) ?hr ?_; (case hd => rfl); (case hg => rfl); (case hr => exact tH); intro gb326 hg w43 hbox hb; refine qM12 (Kd.V_below (Kd.V_elderB (by (with_reducible repeat (first | apply Kd.V_alloc | apply Kd.V_drewN | apply Kd.V_drew)); exact HO0_1.out) gb326 (Nat.le_of_eq hg.symm)) hb) (Kd.V_below (Kd.V_elderB (by (with_reducible repeat (first | apply Kd.V_alloc | apply Kd.V_drewN | apply Kd.V_drew)); exact HO1_1.out) gb326 (Nat.le_of_eq hg.symm)) hb) (tQ BK324.out hb) (tQ BK325.out hb) (bQT tB hb) hbox (tZ w hg) (tZ w hg) ((by rw [hg]; exact Nat.ne_of_lt (blk_lt (g := gb324) (o := .cells #[.int .i64 a0_0, .slice A0_1 l0_1.length c0_1] 27 (0, 0)) (tG BK324.out)) : gb324 ≠ gb326)) ((by rw [hg]; exact Nat.ne_of_gt (blk_lt (g := gb324) (o := .cells #[.int .i64 a0_0, .slice A0_1 l0_1.length c0_1] 27 (0, 0)) (tG BK324.out)) : gb326 ≠ gb324)) ((by rw [hg]; exact Nat.ne_of_lt (blk_lt (g := gb325) (o := .cells #[.int .i64 a1_0, .slice A1_1 l1_1.length c1_1] 27 (0, 0)) (tG BK325.out)) : gb325 ≠ gb326)) ((by rw [hg]; exact Nat.ne_of_gt (blk_lt (g := gb325) (o := .cells #[.int .i64 a1_0, .slice A1_1 l1_1.length c1_1] 27 (0, 0)) (tG BK325.out)) : gb326 ≠ gb325)) ?_; clear HO0_1 HO1_1 BK324 BK325 HB; intro HO0_1 HO1_1 BK324 BK325 HB BK326 GW326 GE326 NB324_326 NB326_324 NB325_326 NB326_325; clear hb hbox hg; have hnb44 := NB324_325.out; have hnc44 := NB325_324.out; have hnb45 := NB324_326.out; have hnc45 := NB326_324.out; have hcz46_0 : w43.cell? ⟨gb324, 0, none⟩ = some (.int .i64 a0_0) := (kQC BK324.out 0).trans rfl; have hcz46_1 : w43.cell? ⟨gb324, 1, none⟩ = some (.slice A0_1 l0_1.length c0_1) := (kQC BK324.out 1).trans rfl; have hfz46_0 := kQF BK324.out 0; have hfz46_1 := kQF BK324.out 1; have hnb47 := NB325_326.out; have hnc47 := NB326_325.out; have hcz48_0 : w43.cell? ⟨gb325, 0, none⟩ = some (.int .i64 a1_0) := (kQC BK325.out 0).trans rfl; have hcz48_1 : w43.cell? ⟨gb325, 1, none⟩ = some (.slice A1_1 l1_1.length c1_1) := (kQC BK325.out 1).trans rfl; have hfz48_0 := kQF BK325.out 0; have hfz48_1 := kQF BK325.out 1) | ((with_reducible refine gQd (N := 13) rfl ?_); refine Kd.N_lit k27 _ 27 ?hg (N' := 13) ?hd (xs := ([(⟨a0_0, l0_1⟩ : S27), (⟨a1_0, l1_1⟩ : S27)] : List (S27))) (inner := [.int .i64 a0_0, .slice A0_1 l0_1.length c0_1, .int .i64 a1_0, .slice A1_1 l1_1.length c1_1]) (ok := (fun k_ => ((P0_1_ k_ ∨ P1_1_ k_) ∨ w.heap.size ≤ k_) ∧ k_ ≠ gb324 ∧ k_ ≠ gb325 ∧ k_ ≠ gb326)) (okp := (fun k_ => ((P0_1_ k_ ∨ P1_1_ k_) ∨ w.heap.size ≤ k_) ∧ k_ ≠ gb324 ∧ k_ ≠ gb325 ∧ k_ ≠ gb326)) ?hr ?hp (fun _ hk => hk) ((show ∀ k_, w43.heap.size ≤ k_ → (fun k_ => ((P0_1_ k_ ∨ P1_1_ k_) ∨ w.heap.size ≤ k_) ∧ k_ ≠ gb324 ∧ k_ ≠ gb325 ∧ k_ ≠ gb326) k_ from fun k_ hk => ⟨(.inr (Nat.le_trans (bQZ tB) hk)), Kd.freshB (g := gb324) (o := .cells #[.int .i64 a0_0, .slice A0_1 l0_1.length c0_1] 27 (0, 0)) (tG BK324.out) k_ hk, Kd.freshB (g := gb325) (o := .cells #[.int .i64 a1_0, .slice A1_1 l1_1.length c1_1] 27 (0, 0)) (tG BK325.out) k_ hk, Kd.freshB (g := gb326) (o := .cells #[.int .i64 0, .slice none 0 0] 27 (0, 0)) (tG BK326.out) k_ hk⟩) _ (Nat.le_refl _)) (Below.refl _ _) (Nat.le_refl _) (by simp) ?_; (case hd => rfl); (case hg => rfl); (case hr => exact tH); (case hp => exact (Reps.c2 (show Kd.FK k27 _ _ (⟨a0_0, l0_1⟩ : S27) [.int .i64 a0_0, .slice A0_1 l0_1.length c0_1] from (k27_mkF _ _ (⟨a0_0, l0_1⟩ : S27) (Kd.V_reads' (Kd.V_mono (ok' := (fun k_ => ((P0_1_ k_ ∨ P1_1_ k_) ∨ w.heap.size ≤ k_) ∧ k_ ≠ gb324 ∧ k_ ≠ gb325 ∧ k_ ≠ gb326)) (HO0_1.out) (fun k_ hk => ⟨hk.1.1.1, ⟨hk.1.1.2, ⟨hk.1.2, hk.2⟩⟩⟩))).2.1 (Kd.V_F (Kd.V_mono (ok' := (fun k_ => ((P0_1_ k_ ∨ P1_1_ k_) ∨ w.heap.size ≤ k_) ∧ k_ ≠ gb324 ∧ k_ ≠ gb325 ∧ k_ ≠ gb326)) (HO0_1.out) (fun k_ hk => ⟨hk.1.1.1, ⟨hk.1.1.2, ⟨hk.1.2, hk.2⟩⟩⟩))))) (Reps.c2 (show Kd.FK k27 _ _ (⟨a1_0, l1_1⟩ : S27) [.int .i64 a1_0, .slice A1_1 l1_1.length c1_1] from (k27_mkF _ _ (⟨a1_0, l1_1⟩ : S27) (Kd.V_reads' (Kd.V_mono (ok' := (fun k_ => ((P0_1_ k_ ∨ P1_1_ k_) ∨ w.heap.size ≤ k_) ∧ k_ ≠ gb324 ∧ k_ ≠ gb325 ∧ k_ ≠ gb326)) (HO1_1.out) (fun k_ hk => ⟨hk.1.1.1, ⟨hk.1.1.2, ⟨hk.1.2, hk.2⟩⟩⟩))).2.1 (Kd.V_F (Kd.V_mono (ok' := (fun k_ => ((P0_1_ k_ ∨ P1_1_ k_) ∨ w.heap.size ≤ k_) ∧ k_ ≠ gb324 ∧ k_ ≠ gb325 ∧ k_ ≠ gb326)) (HO1_1.out) (fun k_ hk => ⟨hk.1.1.1, ⟨hk.1.1.2, ⟨hk.1.2, hk.2⟩⟩⟩))))) (Reps.none _ _)))); intro v328 w49 ho50 hb hg_ hnew_; clear hg_ hnew_; (first | rw [← Ny327.out] at ho50 | (simp only [Int.reduceToNat] at ho50; rw [← Ny327.out] at ho50)); refine qM7 (Kd.V_elder' (by (with_reducible repeat (first | apply Kd.V_alloc | apply Kd.V_drewN | apply Kd.V_drew)); exact HO0_1.out) (Kd.N_base ho50) hb) (Kd.V_elder' (by (with_reducible repeat (first | apply Kd.V_alloc | apply Kd.V_drewN | apply Kd.V_drew)); exact HO1_1.out) (Kd.N_base ho50) hb) (Kd.N_lower ho50 (bQZ tB)) (tQ BK324.out hb) (tQ BK325.out hb) (tQ BK326.out hb) (bQT tB hb) ?_; clear HO0_1 HO1_1 BK324 BK325 BK326 HB; intro HO0_1 HO1_1 HO329 BK324 BK325 BK326 HB; clear hb ho50; obtain ⟨Ao51, co51, eo51⟩ := Kd.N_slice HO329.out; subst eo51) | ((with_reducible refine gQc (f := 47) rfl ?_); refine goesL_ (some 14) rfl rfl Try.func47 (by kernel_rfl) rfl #[.func (.func 55) #[] #[.pointer (some ⟨gb324, 0, none⟩), .pointer (some ⟨gb325, 0, none⟩)], .slice Ao51 y327.length co51] rfl tL ?_; (with_reducible refine (impl_matricesCode_AT_impl_AddMatrices_1.calls k (⟨gb324, 0, none⟩ : Addr) (⟨gb325, 0, none⟩ : Addr) a0_0 A0_1 c0_1 l0_1 a1_0 A1_1 c1_1 l1_1 _ _ y327 t330 _ ?s1 ?s2 ?s3 ?s4 ?s5 ?s6 ?s7 ?s8 A3.out).mono ?_); (case s1 => exact tC ((Kd.V_reads' HO0_1.out).2.2)); (case s2 => exact (Kd.V_reads' HO0_1.out).2.1); (case s3 => exact tC ((Kd.V_reads' HO1_1.out).2.2)); (case s4 => exact (Kd.V_reads' HO1_1.out).2.1); (case s5 => exact tC ((Kd.N_reads' HO329.out).2.2)); (case s6 => exact (Kd.N_reads' HO329.out).2.1); (case s7 => exact AtC.of_blk (g := gb324) (t := 27) (cs := #[.int .i64 a0_0, .slice A0_1 l0_1.length c0_1]) (tG BK324.out) rfl); (case s8 => exact AtC.of_blk (g := gb325) (t := 27) (cs := #[.int .i64 a1_0, .slice A1_1 l1_1.length c1_1]) (tG BK325.out) rfl); rintro e w52 ⟨rfl, hb⟩; refine ⟨_, rfl, ?_⟩; refine qM7 (Kd.V_below (by (with_reducible repeat (first | apply Kd.V_alloc | apply Kd.V_drewN | apply Kd.V_drew)); exact HO0_1.out) hb) (Kd.V_below (by (with_reducible repeat (first | apply Kd.V_alloc | apply Kd.V_drewN | apply Kd.V_drew)); exact HO1_1.out) hb) (Kd.N_below (by (with_reducible repeat (first | apply Kd.N_alloc | apply Kd.N_drewN | apply Kd.N_drew)); exact HO329.out) hb) (tQ BK324.out hb) (tQ BK325.out hb) (tQ BK326.out hb) (bQT tB hb) ?_; clear HO0_1 HO1_1 HO329 BK324 BK325 BK326 HB; intro HO0_1 HO1_1 HO329 BK324 BK325 BK326 HB; (try clear hb); (try clear hb2); (try clear hk); (try clear hi); have hcz53_0 : w52.cell? ⟨gb326, 0, none⟩ = some (.int .i64 0) := (kQC BK326.out 0).trans rfl; have hcz53_1 : w52.cell? ⟨gb326, 1, none⟩ = some (.slice none 0 0) := (kQC BK326.out 1).trans rfl; have hfz53_0 := kQF BK326.out 0; have hfz53_1 := kQF BK326.out 1))
  refine bodyPost_ret (results_ct rfl _ _ gb326 27 #[.int .i64 0, .slice none 0 0] (0, 0) _ rfl (by (with_reducible repeat (first | refine kQN ?_ _ | refine kQD ?_ | refine kQA ?_ _)); refine kQP (cs := #[.int .i64 0, .slice none 0 0]) ?_ 1 _ rfl; (with_reducible repeat (first | refine kQN ?_ _ | refine kQD ?_ | refine kQA ?_ _)); refine kQP (cs := #[.int .i64 0, .slice none 0 0]) ?_ 0 _ rfl; (with_reducible repeat (first | refine kQN ?_ _ | refine kQD ?_ | refine kQA ?_ _)); exact BK326.out) Try.underlying27 rfl (by kernel_rfl)) rfl ?_
  exact ⟨_, tE, by first | exact Kd.R_nil _ _ _ _ _ | exact Kd.N_nil _ _ _ _ _ | exact Kd.V_nil _ _ _ _ _ | exact Kd.Q_nil _ _ _ _ _ | exact Kd.S_nil _ _ _ _ _, tB⟩
 rw [if_pos c4] at H
 have c4b0 := beq_iff_eq.mpr c4
 have c4b1 := bne_eq_false_iff_eq.mpr c4
 clear c4
 replace H' := Aq.mk H
 clear H
 go_enter Try.func19, Try.ntmps19
 go_wp2_with (first | ((with_reducible refine gQd (N := 2) rfl ?_); refine xQe ?hg (N := 2) ?hd (cs := #[.int .i64 a0_0, .slice A0_1 l0_1.length c0_1]) (t := 27) ?hr ?_; (case hd => rfl); (case hg => rfl); (case hr => exact tH); intro gb324 hg w5 hbox hb; refine qM6 (Kd.V_below (Kd.V_elderB (by (with_reducible repeat (first | apply Kd.V_alloc | apply Kd.V_drewN | apply Kd.V_drew)); exact HO0_1.out) gb324 (Nat.le_of_eq hg.symm)) hb) (Kd.V_below (Kd.V_elderB (by (with_reducible repeat (first | apply Kd.V_alloc | apply Kd.V_drewN | apply Kd.V_drew)); exact HO1_1.out) gb324 (Nat.le_of_eq hg.symm)) hb) (bQT tB hb) hbox (tZ w hg) (tZ w hg) ?_; clear HO0_1 HO1_1 HB; intro HO0_1 HO1_1 HB BK324 GW324 GE324; clear hb hbox hg) | ((with_reducible refine gQd (N := 3) rfl ?_); refine xQe ?hg (N := 3) ?hd (cs := #[.int .i64 a1_0, .slice A1_1 l1_1.length c1_1]) (t := 27) ?hr ?_; (case hd => rfl); (case hg => rfl); (case hr => exact tH); intro gb325 hg w6 hbox hb; refine qM9 (Kd.V_below (Kd.V_elderB (by (with_reducible repeat (first | apply Kd.V_alloc | apply Kd.V_drewN | apply Kd.V_drew)); exact HO0_1.out) gb325 (Nat.le_of_eq hg.symm)) hb) (Kd.V_below (Kd.V_elderB (by (with_reducible repeat (first | apply Kd.V_alloc | apply Kd.V_drewN | apply Kd.V_drew)); exact HO1_1.out) gb325 (Nat.le_of_eq hg.symm)) hb) (tQ BK324.out hb) (bQT tB hb) hbox (tZ w hg) (tZ w hg) ((by rw [hg]; exact Nat.ne_of_lt (blk_lt (g := gb324) (o := .cells #[.int .i64 a0_0, .slice A0_1 l0_1.length c0_1] 27 (0, 0)) (tG BK324.out)) : gb324 ≠ gb325)) ((by rw [hg]; exact Nat.ne_of_gt (blk_lt (g := gb324) (o := .cells #[.int .i64 a0_0, .slice A0_1 l0_1.length c0_1] 27 (0, 0)) (tG BK324.out)) : gb325 ≠ gb324)) ?_; clear HO0_1 HO1_1 BK324 HB; intro HO0_1 HO1_1 BK324 HB BK325 GW325 GE325 NB324_325 NB325_324; clear hb hbox hg) | ((with_reducible refine gQd (N := 4) rfl ?_); refine xQe ?hg (N := 4) ?hd (cs := #[.int .i64 0, .slice none 0 0]) (t := 27) ?hr ?_; (case hd => rfl); (case hg => rfl); (case hr => exact tH); intro gb326 hg w7 hbox hb; refine qM12 (Kd.V_below (Kd.V_elderB (by (with_reducible repeat (first | apply Kd.V_alloc | apply Kd.V_drewN | apply Kd.V_drew)); exact HO0_1.out) gb326 (Nat.le_of_eq hg.symm)) hb) (Kd.V_below (Kd.V_elderB (by (with_reducible repeat (first | apply Kd.V_alloc | apply Kd.V_drewN | apply Kd.V_drew)); exact HO1_1.out) gb326 (Nat.le_of_eq hg.symm)) hb) (tQ BK324.out hb) (tQ BK325.out hb) (bQT tB hb) hbox (tZ w hg) (tZ w hg) ((by rw [hg]; exact Nat.ne_of_lt (blk_lt (g := gb324) (o := .cells #[.int .i64 a0_0, .slice A0_1 l0_1.length c0_1] 27 (0, 0)) (tG BK324.out)) : gb324 ≠ gb326)) ((by rw [hg]; exact Nat.ne_of_gt (blk_lt (g := gb324) (o := .cells #[.int .i64 a0_0, .slice A0_1 l0_1.length c0_1] 27 (0, 0)) (tG BK324.out)) : gb326 ≠ gb324)) ((by rw [hg]; exact Nat.ne_of_lt (blk_lt (g := gb325) (o := .cells #[.int .i64 a1_0, .slice A1_1 l1_1.length c1_1] 27 (0, 0)) (tG BK325.out)) : gb325 ≠ gb326)) ((by rw [hg]; exact Nat.ne_of_gt (blk_lt (g := gb325) (o := .cells #[.int .i64 a1_0, .slice A1_1 l1_1.length c1_1] 27 (0, 0)) (tG BK325.out)) : gb326 ≠ gb325)) ?_; clear HO0_1 HO1_1 BK324 BK325 HB; intro HO0_1 HO1_1 BK324 BK325 HB BK326 GW326 GE326 NB324_326 NB326_324 NB325_326 NB326_325; clear hb hbox hg; have hnb8 := NB324_325.out; have hnc8 := NB325_324.out; have hnb9 := NB324_326.out; have hnc9 := NB326_324.out; have hcz10_0 : w7.cell? ⟨gb324, 0, none⟩ = some (.int .i64 a0_0) := (kQC BK324.out 0).trans rfl; have hcz10_1 : w7.cell? ⟨gb324, 1, none⟩ = some (.slice A0_1 l0_1.length c0_1) := (kQC BK324.out 1).trans rfl; have hfz10_0 := kQF BK324.out 0; have hfz10_1 := kQF BK324.out 1; have hnb11 := NB325_326.out; have hnc11 := NB326_325.out; have hcz12_0 : w7.cell? ⟨gb325, 0, none⟩ = some (.int .i64 a1_0) := (kQC BK325.out 0).trans rfl; have hcz12_1 : w7.cell? ⟨gb325, 1, none⟩ = some (.slice A1_1 l1_1.length c1_1) := (kQC BK325.out 1).trans rfl; have hfz12_0 := kQF BK325.out 0; have hfz12_1 := kQF BK325.out 1) | ((with_reducible refine gQd (N := 13) rfl ?_); refine Kd.N_lit k27 _ 27 ?hg (N' := 13) ?hd (xs := ([(⟨a0_0, l0_1⟩ : S27), (⟨a1_0, l1_1⟩ : S27)] : List (S27))) (inner := [.int .i64 a0_0, .slice A0_1 l0_1.length c0_1, .int .i64 a1_0, .slice A1_1 l1_1.length c1_1]) (ok := (fun k_ => ((P0_1_ k_ ∨ P1_1_ k_) ∨ w.heap.size ≤ k_) ∧ k_ ≠ gb324 ∧ k_ ≠ gb325 ∧ k_ ≠ gb326)) (okp := (fun k_ => ((P0_1_ k_ ∨ P1_1_ k_) ∨ w.heap.size ≤ k_) ∧ k_ ≠ gb324 ∧ k_ ≠ gb325 ∧ k_ ≠ gb326)) ?hr ?hp (fun _ hk => hk) ((show ∀ k_, w7.heap.size ≤ k_ → (fun k_ => ((P0_1_ k_ ∨ P1_1_ k_) ∨ w.heap.size ≤ k_) ∧ k_ ≠ gb324 ∧ k_ ≠ gb325 ∧ k_ ≠ gb326) k_ from fun k_ hk => ⟨(.inr (Nat.le_trans (bQZ tB) hk)), Kd.freshB (g := gb324) (o := .cells #[.int .i64 a0_0, .slice A0_1 l0_1.length c0_1] 27 (0, 0)) (tG BK324.out) k_ hk, Kd.freshB (g := gb325) (o := .cells #[.int .i64 a1_0, .slice A1_1 l1_1.length c1_1] 27 (0, 0)) (tG BK325.out) k_ hk, Kd.freshB (g := gb326) (o := .cells #[.int .i64 0, .slice none 0 0] 27 (0, 0)) (tG BK326.out) k_ hk⟩) _ (Nat.le_refl _)) (Below.refl _ _) (Nat.le_refl _) (by simp) ?_; (case hd => rfl); (case hg => rfl); (case hr => exact tH); (case hp => exact (Reps.c2 (show Kd.FK k27 _ _ (⟨a0_0, l0_1⟩ : S27) [.int .i64 a0_0, .slice A0_1 l0_1.length c0_1] from (k27_mkF _ _ (⟨a0_0, l0_1⟩ : S27) (Kd.V_reads' (Kd.V_mono (ok' := (fun k_ => ((P0_1_ k_ ∨ P1_1_ k_) ∨ w.heap.size ≤ k_) ∧ k_ ≠ gb324 ∧ k_ ≠ gb325 ∧ k_ ≠ gb326)) (HO0_1.out) (fun k_ hk => ⟨hk.1.1.1, ⟨hk.1.1.2, ⟨hk.1.2, hk.2⟩⟩⟩))).2.1 (Kd.V_F (Kd.V_mono (ok' := (fun k_ => ((P0_1_ k_ ∨ P1_1_ k_) ∨ w.heap.size ≤ k_) ∧ k_ ≠ gb324 ∧ k_ ≠ gb325 ∧ k_ ≠ gb326)) (HO0_1.out) (fun k_ hk => ⟨hk.1.1.1, ⟨hk.1.1.2, ⟨hk.1.2, hk.2⟩⟩⟩))))) (Reps.c2 (show Kd.FK k27 _ _ (⟨a1_0, l1_1⟩ : S27) [.int .i64 a1_0, .slice A1_1 l1_1.length c1_1] from (k27_mkF _ _ (⟨a1_0, l1_1⟩ : S27) (Kd.V_reads' (Kd.V_mono (ok' := (fun k_ => ((P0_1_ k_ ∨ P1_1_ k_) ∨ w.heap.size ≤ k_) ∧ k_ ≠ gb324 ∧ k_ ≠ gb325 ∧ k_ ≠ gb326)) (HO1_1.out) (fun k_ hk => ⟨hk.1.1.1, ⟨hk.1.1.2, ⟨hk.1.2, hk.2⟩⟩⟩))).2.1 (Kd.V_F (Kd.V_mono (ok' := (fun k_ => ((P0_1_ k_ ∨ P1_1_ k_) ∨ w.heap.size ≤ k_) ∧ k_ ≠ gb324 ∧ k_ ≠ gb325 ∧ k_ ≠ gb326)) (HO1_1.out) (fun k_ hk => ⟨hk.1.1.1, ⟨hk.1.1.2, ⟨hk.1.2, hk.2⟩⟩⟩))))) (Reps.none _ _)))); intro v328 w13 ho14 hb hg_ hnew_; clear hg_ hnew_; (first | rw [← Ny327.out] at ho14 | (simp only [Int.reduceToNat] at ho14; rw [← Ny327.out] at ho14)); refine qM7 (Kd.V_elder' (by (with_reducible repeat (first | apply Kd.V_alloc | apply Kd.V_drewN | apply Kd.V_drew)); exact HO0_1.out) (Kd.N_base ho14) hb) (Kd.V_elder' (by (with_reducible repeat (first | apply Kd.V_alloc | apply Kd.V_drewN | apply Kd.V_drew)); exact HO1_1.out) (Kd.N_base ho14) hb) (Kd.N_lower ho14 (bQZ tB)) (tQ BK324.out hb) (tQ BK325.out hb) (tQ BK326.out hb) (bQT tB hb) ?_; clear HO0_1 HO1_1 BK324 BK325 BK326 HB; intro HO0_1 HO1_1 HO329 BK324 BK325 BK326 HB; clear hb ho14; obtain ⟨Ao15, co15, eo15⟩ := Kd.N_slice HO329.out; subst eo15) | ((with_reducible refine gQc (f := 47) rfl ?_); refine goesL_ (some 14) rfl rfl Try.func47 (by kernel_rfl) rfl #[.func (.func 55) #[] #[.pointer (some ⟨gb324, 0, none⟩), .pointer (some ⟨gb325, 0, none⟩)], .slice Ao15 y327.length co15] rfl tL ?_; (with_reducible refine (impl_matricesCode_AT_impl_AddMatrices_1.calls k (⟨gb324, 0, none⟩ : Addr) (⟨gb325, 0, none⟩ : Addr) a0_0 A0_1 c0_1 l0_1 a1_0 A1_1 c1_1 l1_1 _ _ y327 t330 _ ?s1 ?s2 ?s3 ?s4 ?s5 ?s6 ?s7 ?s8 A3.out).mono ?_); (case s1 => exact tC ((Kd.V_reads' HO0_1.out).2.2)); (case s2 => exact (Kd.V_reads' HO0_1.out).2.1); (case s3 => exact tC ((Kd.V_reads' HO1_1.out).2.2)); (case s4 => exact (Kd.V_reads' HO1_1.out).2.1); (case s5 => exact tC ((Kd.N_reads' HO329.out).2.2)); (case s6 => exact (Kd.N_reads' HO329.out).2.1); (case s7 => exact AtC.of_blk (g := gb324) (t := 27) (cs := #[.int .i64 a0_0, .slice A0_1 l0_1.length c0_1]) (tG BK324.out) rfl); (case s8 => exact AtC.of_blk (g := gb325) (t := 27) (cs := #[.int .i64 a1_0, .slice A1_1 l1_1.length c1_1]) (tG BK325.out) rfl); rintro e w16 ⟨rfl, hb⟩; refine ⟨_, rfl, ?_⟩; refine qM7 (Kd.V_below (by (with_reducible repeat (first | apply Kd.V_alloc | apply Kd.V_drewN | apply Kd.V_drew)); exact HO0_1.out) hb) (Kd.V_below (by (with_reducible repeat (first | apply Kd.V_alloc | apply Kd.V_drewN | apply Kd.V_drew)); exact HO1_1.out) hb) (Kd.N_below (by (with_reducible repeat (first | apply Kd.N_alloc | apply Kd.N_drewN | apply Kd.N_drew)); exact HO329.out) hb) (tQ BK324.out hb) (tQ BK325.out hb) (tQ BK326.out hb) (bQT tB hb) ?_; clear HO0_1 HO1_1 HO329 BK324 BK325 BK326 HB; intro HO0_1 HO1_1 HO329 BK324 BK325 BK326 HB; (try clear hb); (try clear hb2); (try clear hk); (try clear hi); have hcz17_0 : w16.cell? ⟨gb324, 0, none⟩ = some (.int .i64 a0_0) := (kQC BK324.out 0).trans rfl; have hcz17_1 : w16.cell? ⟨gb324, 1, none⟩ = some (.slice A0_1 l0_1.length c0_1) := (kQC BK324.out 1).trans rfl; have hfz17_0 := kQF BK324.out 0; have hfz17_1 := kQF BK324.out 1) | ((with_reducible refine gQd (N := 7) rfl ?_); refine xQe ?hg (N := 7) ?hd (cs := #[.int .i64 0, .slice none 0 0]) (t := 27) ?hr ?_; (case hd => rfl); (case hg => rfl); (case hr => exact tH); intro gb331 hg w18 hbox hb; refine qM16 (Kd.V_below (Kd.V_elderB (by (with_reducible repeat (first | apply Kd.V_alloc | apply Kd.V_drewN | apply Kd.V_drew)); exact HO0_1.out) gb331 (Nat.le_of_eq hg.symm)) hb) (Kd.V_below (Kd.V_elderB (by (with_reducible repeat (first | apply Kd.V_alloc | apply Kd.V_drewN | apply Kd.V_drew)); exact HO1_1.out) gb331 (Nat.le_of_eq hg.symm)) hb) (Kd.N_below (Kd.N_elderB (by (with_reducible repeat (first | apply Kd.N_alloc | apply Kd.N_drewN | apply Kd.N_drew)); exact HO329.out) gb331 (Nat.le_of_eq hg.symm)) hb) (tQ BK324.out hb) (tQ BK325.out hb) (tQ BK326.out hb) (bQT tB hb) hbox (tZ w hg) (tZ w hg) ((by rw [hg]; exact Nat.ne_of_lt (blk_lt (g := gb324) (o := .cells #[.int .i64 a0_0, .slice A0_1 l0_1.length c0_1] 27 (0, 0)) (tG BK324.out)) : gb324 ≠ gb331)) ((by rw [hg]; exact Nat.ne_of_gt (blk_lt (g := gb324) (o := .cells #[.int .i64 a0_0, .slice A0_1 l0_1.length c0_1] 27 (0, 0)) (tG BK324.out)) : gb331 ≠ gb324)) ((by rw [hg]; exact Nat.ne_of_lt (blk_lt (g := gb325) (o := .cells #[.int .i64 a1_0, .slice A1_1 l1_1.length c1_1] 27 (0, 0)) (tG BK325.out)) : gb325 ≠ gb331)) ((by rw [hg]; exact Nat.ne_of_gt (blk_lt (g := gb325) (o := .cells #[.int .i64 a1_0, .slice A1_1 l1_1.length c1_1] 27 (0, 0)) (tG BK325.out)) : gb331 ≠ gb325)) ((by rw [hg]; exact Nat.ne_of_lt (blk_lt (g := gb326) (o := .cells #[.int .i64 0, .slice none 0 0] 27 (0, 0)) (tG BK326.out)) : gb326 ≠ gb331)) ((by rw [hg]; exact Nat.ne_of_gt (blk_lt (g := gb326) (o := .cells #[.int .i64 0, .slice none 0 0] 27 (0, 0)) (tG BK326.out)) : gb331 ≠ gb326)) ?_; clear HO0_1 HO1_1 HO329 BK324 BK325 BK326 HB; intro HO0_1 HO1_1 HO329 BK324 BK325 BK326 HB BK331 GW331 GE331 NB324_331 NB331_324 NB325_331 NB331_325 NB326_331 NB331_326; clear hb hbox hg; have hnb19 := NB331_324.out; have hnc19 := NB324_331.out; have hnb20 := NB331_325.out; have hnc20 := NB325_331.out; have hnb21 := NB331_326.out; have hnc21 := NB326_331.out; have hcz22_0 : w18.cell? ⟨gb331, 0, none⟩ = some (.int .i64 0) := (kQC BK331.out 0).trans rfl; have hcz22_1 : w18.cell? ⟨gb331, 1, none⟩ = some (.slice none 0 0) := (kQC BK331.out 1).trans rfl; have hfz22_0 := kQF BK331.out 0; have hfz22_1 := kQF BK331.out 1; have hcz23_0 : w18.cell? ⟨gb324, 0, none⟩ = some (.int .i64 a0_0) := (kQC BK324.out 0).trans rfl; have hcz23_1 : w18.cell? ⟨gb324, 1, none⟩ = some (.slice A0_1 l0_1.length c0_1) := (kQC BK324.out 1).trans rfl; have hfz23_0 := kQF BK324.out 0; have hfz23_1 := kQF BK324.out 1))
 go_loopg [25] k (fun kq v25 w' => ∃ (x25_1 : Int) (x332001_1 : List Int) (u332001 : Value), v25 = .int .i64 x25_1 ∧ Aq (impl_AddMatrices.l0 kq l0_1 (l0_1.length : Int) x25_1 a1_0 l1_1 a0_0 x332001_1 = some (r1, r2, r3)) ∧ Aq (kq ≤ k) ∧ Aq (Kd.V (Kd.int .i64) 2 w' w.heap.size (fun k_ => ((P0_1_ k_ ∨ P1_1_ k_) ∨ w.heap.size ≤ k_) ∧ some k_ ≠ (u332001 : Value).ownBlock ∧ k_ ≠ gb324 ∧ k_ ≠ gb325 ∧ k_ ≠ gb326 ∧ k_ ≠ gb331) (.slice A0_1 l0_1.length c0_1) l0_1) ∧ Aq (Kd.V (Kd.int .i64) 2 w' w.heap.size (fun k_ => ((P0_1_ k_ ∨ P1_1_ k_) ∨ w.heap.size ≤ k_) ∧ some k_ ≠ (u332001 : Value).ownBlock ∧ k_ ≠ gb324 ∧ k_ ≠ gb325 ∧ k_ ≠ gb326 ∧ k_ ≠ gb331) (.slice A0_1 l0_1.length c0_1) l0_1) ∧ Aq (Kd.V (Kd.int .i64) 2 w' w.heap.size (fun k_ => ((P0_1_ k_ ∨ P1_1_ k_) ∨ w.heap.size ≤ k_) ∧ some k_ ≠ (u332001 : Value).ownBlock ∧ k_ ≠ gb324 ∧ k_ ≠ gb325 ∧ k_ ≠ gb326 ∧ k_ ≠ gb331) (.slice A1_1 l1_1.length c1_1) l1_1) ∧ Aq (Kd.R (Kd.int .i64) 2 w' w.heap.size (fun k_ => (w.heap.size ≤ k_)) u332001 x332001_1) ∧ Aq (w'.heap[gb324]? = some (.cells #[.int .i64 a0_0, (.slice A0_1 l0_1.length c0_1)] 27 (0, 0))) ∧ Aq (w'.heap[gb325]? = some (.cells #[.int .i64 a1_0, (.slice A1_1 l1_1.length c1_1)] 27 (0, 0))) ∧ Aq (w'.heap[gb326]? = some (.cells #[.int .i64 0, (.slice none 0 0)] 27 (0, 0))) ∧ Aq (w'.heap[gb331]? = some (.cells #[.int .i64 a0_0, u332001] 27 (0, 0))) ∧ Aq (Below w.heap.size w w'))
 case atStart => exact ⟨(0), (([] : List Int)), (.slice none 0 0), tS, H', ⟨Nat.le_refl _⟩, ⟨by (with_reducible repeat (first | apply Kd.V_alloc | apply Kd.V_drewN | apply Kd.V_drew)); exact Kd.V_mono (Kd.V_far (p := ⟨gb331, 1, none⟩) (Kd.V_far (p := ⟨gb331, 0, none⟩) (Kd.V_mono HO0_1.out (fun k_ hk => (⟨hk, hk.2⟩ : _ ∧ k_ ≠ gb331))) (fun _ hk => hk.2) (.int .i64 a0_0)) (fun _ hk => hk.2) (.slice none 0 0)) (fun _ hk => ⟨hk.1.1.1.1.1.1, ⟨(by simp [Value.ownBlock]), ⟨hk.1.1.1.1.1.2, ⟨hk.1.1.1.1.2, ⟨hk.1.1.1.2, hk.1.2⟩⟩⟩⟩⟩)⟩, ⟨by (with_reducible repeat (first | apply Kd.V_alloc | apply Kd.V_drewN | apply Kd.V_drew)); exact Kd.V_mono (Kd.V_far (p := ⟨gb331, 1, none⟩) (Kd.V_far (p := ⟨gb331, 0, none⟩) (Kd.V_mono HO0_1.out (fun k_ hk => (⟨hk, hk.2⟩ : _ ∧ k_ ≠ gb331))) (fun _ hk => hk.2) (.int .i64 a0_0)) (fun _ hk => hk.2) (.slice none 0 0)) (fun _ hk => ⟨hk.1.1.1.1.1.1, ⟨(by simp [Value.ownBlock]), ⟨hk.1.1.1.1.1.2, ⟨hk.1.1.1.1.2, ⟨hk.1.1.1.2, hk.1.2⟩⟩⟩⟩⟩)⟩, ⟨by (with_reducible repeat (first | apply Kd.V_alloc | apply Kd.V_drewN | apply Kd.V_drew)); exact Kd.V_mono (Kd.V_far (p := ⟨gb331, 1, none⟩) (Kd.V_far (p := ⟨gb331, 0, none⟩) (Kd.V_mono HO1_1.out (fun k_ hk => (⟨hk, hk.2⟩ : _ ∧ k_ ≠ gb331))) (fun _ hk => hk.2) (.int .i64 a0_0)) (fun _ hk => hk.2) (.slice none 0 0)) (fun _ hk => ⟨hk.1.1.1.1.1.1, ⟨(by simp [Value.ownBlock]), ⟨hk.1.1.1.1.1.2, ⟨hk.1.1.1.1.2, ⟨hk.1.1.1.2, hk.1.2⟩⟩⟩⟩⟩)⟩, ⟨by first | exact Kd.R_nil _ _ _ _ _ | exact Kd.N_nil _ _ _ _ _ | exact Kd.V_nil _ _ _ _ _ | exact Kd.Q_nil _ _ _ _ _ | exact Kd.S_nil _ _ _ _ _⟩, ⟨by (with_reducible repeat (first | refine kQN ?_ _ | refine kQD ?_ | refine kQA ?_ _)); refine kQR ?_ NB324_331.out _; (with_reducible repeat (first | refine kQN ?_ _ | refine kQD ?_ | refine kQA ?_ _)); refine kQR ?_ NB324_331.out _; (with_reducible repeat (first | refine kQN ?_ _ | refine kQD ?_ | refine kQA ?_ _)); exact BK324.out⟩, ⟨by (with_reducible repeat (first | refine kQN ?_ _ | refine kQD ?_ | refine kQA ?_ _)); refine kQR ?_ NB325_331.out _; (with_reducible repeat (first | refine kQN ?_ _ | refine kQD ?_ | refine kQA ?_ _)); refine kQR ?_ NB325_331.out _; (with_reducible repeat (first | refine kQN ?_ _ | refine kQD ?_ | refine kQA ?_ _)); exact BK325.out⟩, ⟨by (with_reducible repeat (first | refine kQN ?_ _ | refine kQD ?_ | refine kQA ?_ _)); refine kQR ?_ NB326_331.out _; (with_reducible repeat (first | refine kQN ?_ _ | refine kQD ?_ | refine kQA ?_ _)); refine kQR ?_ NB326_331.out _; (with_reducible repeat (first | refine kQN ?_ _ | refine kQD ?_ | refine kQA ?_ _)); exact BK326.out⟩, ⟨by (with_reducible repeat (first | refine kQN ?_ _ | refine kQD ?_ | refine kQA ?_ _)); refine kQP (cs := #[.int .i64 a0_0, .slice none 0 0]) ?_ 1 _ rfl; (with_reducible repeat (first | refine kQN ?_ _ | refine kQD ?_ | refine kQA ?_ _)); refine kQP (cs := #[.int .i64 0, .slice none 0 0]) ?_ 0 _ rfl; (with_reducible repeat (first | refine kQN ?_ _ | refine kQD ?_ | refine kQA ?_ _)); exact BK331.out⟩, ⟨tB⟩⟩
 clear H'
 try clear c2
 try clear c4
 try clear c4b0
 try clear c4b1
 try clear hcz10_0
 try clear hcz10_1
 try clear hcz12_0
 try clear hcz12_1
 try clear hcz17_0
 try clear hcz17_1
 try clear hcz22_0
 try clear hcz22_1
 try clear hcz23_0
 try clear hcz23_1
 try clear hfz10_0
 try clear hfz10_1
 try clear hfz12_0
 try clear hfz12_1
 try clear hfz17_0
 try clear hfz17_1
 try clear hfz22_0
 try clear hfz22_1
 try clear hfz23_0
 try clear hfz23_1
 obtain ⟨x25_1, x332001_1, u332001, rfl, HA, HK1, HO_23, HO_325001, HO_326001, HO_332001, BK324, BK325, BK326, BK331, HB⟩ := hrel
 cases gk with
 | zero => exact absurd HA.out (by simp [impl_AddMatrices.l0])
 | succ k1 =>
  have H := HA.out
  clear HA
  simp only [impl_AddMatrices.l0] at H
  by_cases c24 : x25_1 < (l0_1.length : Int)
  rotate_left
  ·rw [if_neg c24] at H
   have c24b0 := decide_eq_false c24
   clear c24
   simp only [Option.some.injEq, Prod.mk.injEq] at H
   obtain ⟨rfl, rfl, rfl⟩ := H
   have hnb33 := NB331_324.out
   have hnc33 := NB324_331.out
   have hnb34 := NB331_325.out
   have hnc34 := NB325_331.out
   have hnb35 := NB331_326.out
   have hnc35 := NB326_331.out
   have hcz36_0 : wr.cell? ⟨gb331, 0, none⟩ = some (.int .i64 a0_0) := (kQC BK331.out 0).trans rfl
   have hcz36_1 : wr.cell? ⟨gb331, 1, none⟩ = some (u332001) := (kQC BK331.out 1).trans rfl
   have hfz36_0 := kQF BK331.out 0
   have hfz36_1 := kQF BK331.out 1
   have hnb37 := NB326_324.out
   have hnc37 := NB324_326.out
   have hnb38 := NB326_325.out
   have hnc38 := NB325_326.out
   have hcz39_0 : wr.cell? ⟨gb326, 0, none⟩ = some (.int .i64 0) := (kQC BK326.out 0).trans rfl
   have hcz39_1 : wr.cell? ⟨gb326, 1, none⟩ = some (.slice none 0 0) := (kQC BK326.out 1).trans rfl
   have hfz39_0 := kQF BK326.out 0
   have hfz39_1 := kQF BK326.out 1
   obtain ⟨Ao40, co40, eo40⟩ := Kd.R_slice HO_332001.out
   subst eo40
   go_wp2
   refine bodyPost_ret (results_ct rfl _ _ gb326 27 #[.int .i64 a0_0, .slice Ao40 x332001_1.length co40] (0, 0) _ rfl (by (with_reducible repeat (first | refine kQN ?_ _ | refine kQD ?_ | refine kQA ?_ _)); refine kQP (cs := #[.int .i64 a0_0, .slice none 0 0]) ?_ 1 _ rfl; (with_reducible repeat (first | refine kQN ?_ _ | refine kQD ?_ | refine kQA ?_ _)); refine kQP (cs := #[.int .i64 0, .slice none 0 0]) ?_ 0 _ rfl; (with_reducible repeat (first | refine kQN ?_ _ | refine kQD ?_ | refine kQA ?_ _)); exact BK326.out) Try.underlying27 rfl (by kernel_rfl)) rfl ?_
   exact ⟨_, tE, by (with_reducible repeat (first | apply Kd.RqA | apply Kd.RqN | apply Kd.RqD)); exact Kd.R_mono (Kd.R_far (p := ⟨gb326, 1, none⟩) (Kd.R_far (p := ⟨gb326, 0, none⟩) (Kd.R_types HO_332001.out BK326.out (by decide)) (fun _ hk => hk.2) (.int .i64 a0_0)) (fun _ hk => hk.2) (.slice Ao40 x332001_1.length co40)) (fun _ hk => hk.1), tB⟩
  rw [if_pos c24] at H
  have c24b0 := decide_eq_true c24
  clear c24
  by_cases c25 : 0 ≤ x25_1
  rotate_left
  ·rw [if_neg c25] at H
   exact absurd H (by simp)
  rw [if_pos c25] at H
  have c25b0 := decide_eq_true c25
  clear c25
  by_cases c26 : x25_1 < (l0_1.length : Int)
  rotate_left
  ·rw [if_neg c26] at H
   exact absurd H (by simp)
  rw [if_pos c26] at H
  have c26b0 := decide_eq_true c26
  clear c26
  by_cases c27 : x25_1 < (l1_1.length : Int)
  rotate_left
  ·rw [if_neg c27] at H
   exact absurd H (by simp)
  rw [if_pos c27] at H
  have c27b0 := decide_eq_true c27
  clear c27
  by_cases c28 : x332001_1.length < 17592186044416
  rotate_left
  ·rw [if_neg c28] at H
   exact absurd H (by simp)
  rw [if_pos c28] at H
  have LMc28 := Aq.mk c28
  clear c28
  obtain ⟨y334, hy334⟩ : ∃ y_ : List Int, y_ = (x332001_1 ++ [Go.bits .xor .i64 (rd l0_1 x25_1) (rd l1_1 x25_1)]) := ⟨_, rfl⟩
  replace H : (impl_AddMatrices.l0 k1 l0_1 (l0_1.length : Int) (wrap64 (x25_1 + 1)) a1_0 l1_1 a0_0 y334) = some (r1, r2, r3) := by first | (rw [hy334]; with_reducible exact H) | (have H2_ := (Option.bind_some _ _).symm.trans H; rw [hy334]; with_reducible exact H2_) | (have H2_ := (Option.bind_some _ _).symm.trans H; with_reducible exact H2_) | with_reducible exact H | (rw [hy334]; exact H) | exact H
  have Ny334 := Aq.mk hy334
  clear hy334
  replace H' := Aq.mk H
  clear H
  have p332 : 0 ≤ (x25_1 : Int) := of_decide_eq_true tA
  have q332 : x25_1 < (l0_1.length : Int) := of_decide_eq_true tA
  obtain ⟨ad332, e332, hx332_0⟩ := Kd.at_int (Kd.V_reads' HO_23.out).2.2 x25_1 p332 q332
  cases e332
  replace p332 := eq_true p332
  replace q332 := eq_true q332
  try go_wp2
  have n0_ := Aq.mk (Kd.V_drew HO_23.out)
  have n1_ := Aq.mk (Kd.V_drew HO_325001.out)
  have n2_ := Aq.mk (Kd.V_drew HO_326001.out)
  have n3_ := Aq.mk (Kd.RqD HO_332001.out)
  have n4_ := Aq.mk (kQD BK324.out)
  have n5_ := Aq.mk (kQD BK325.out)
  have n6_ := Aq.mk (kQD BK326.out)
  have n7_ := Aq.mk (kQD BK331.out)
  have n8_ := Aq.mk (bQ1 HB.out)
  clear HO_23
  clear HO_325001
  clear HO_326001
  clear HO_332001
  clear BK324
  clear BK325
  clear BK326
  clear BK331
  clear HB
  have HO_23 := n0_
  have HO_325001 := n1_
  have HO_326001 := n2_
  have HO_332001 := n3_
  have BK324 := n4_
  have BK325 := n5_
  have BK326 := n6_
  have BK331 := n7_
  have HB := n8_
  clear n0_ n1_ n2_ n3_ n4_ n5_ n6_ n7_ n8_
  have p333 : 0 ≤ (x25_1 : Int) := of_decide_eq_true tA
  have q333 : x25_1 < (l1_1.length : Int) := of_decide_eq_true tA
  obtain ⟨ad333, e333, hx333_0⟩ := Kd.at_int (Kd.V_reads' HO_326001.out).2.2 x25_1 p333 q333
  cases e333
  replace p333 := eq_true p333
  replace q333 := eq_true q333
  refine start_ (n := 13) (S := fun w' => w'.cell? ⟨gb331, 0, none⟩ = some (.int .i64 a0_0) ∧ w'.cell? ⟨gb331, 1, none⟩ = some (u332001) ∧ w'.cell? ⟨gb325, 0, none⟩ = some (.int .i64 a1_0) ∧ w'.cell? ⟨gb325, 1, none⟩ = some (.slice (some ad333) l1_1.length c1_1) ∧ w'.cell? (ad333.add (x25_1).toNat) = some (.int .i64 (rd l1_1 x25_1))) (ds := [10, 12]) #[false, false, false, false, false, false, false, false, false, false, false, false, false] (by kernel_rfl) rfl rfl ⟨(kQC BK331.out 0).trans rfl, (kQC BK331.out 1).trans rfl, (kQC BK325.out 0).trans rfl, (kQC BK325.out 1).trans rfl, hx333_0⟩ (fun hHeld => ?_); refine with_tabW impl_AddMatrices.tab8 impl_AddMatrices.bits8 (fun HT_ HW_ => ?_)
  generalize wr.drew = w29 at HO_23 HO_325001 HO_326001 HO_332001 BK324 BK325 BK326 BK331 HB hx333_0 hHeld ⊢
  refine tP0 0 30 (bm 13 1) ?_
  refine tP0 2 32 (bm 13 5) ?_
  refine tP0 3 33 (bm 13 13) ?_
  refine tP0 5 35 (bm 13 45) ?_
  refine tT5 1 31 (bm 13 47) ?_
  refine tT5 4 34 (bm 13 63) ?_
  refine tP0 6 36 (bm 13 127) ?_
  refine tT5 7 37 (bm 13 255) ?_
  refine tP0 8 38 (bm 13 511) ?_
  refine one_ (i := 9) (N := some 39) (bm 13 1023) rfl rfl (one_of HT_.out (by kernel_rfl)) (by decide) (fun K hK => ?_)
  refine value_ (w1 := ?_) (v := ?_) (by rfl) rfl ?_ ?_
  rotate_left 2
  ·go_simp
   constructor
   ·rfl
   rfl
  refine hK.out _ _ ⟨(kQC (kQA BK331.out _) 0).trans rfl, (kQC (kQA BK331.out _) 1).trans rfl, (kQC (kQA BK325.out _) 0).trans rfl, (kQC (kQA BK325.out _) 1).trans rfl, (World.cell?_alloc_lt _ _ _ (World.block_lt_of_cell? _ _ (hHeld.2.2.2.2))).trans (hHeld.2.2.2.2)⟩ (fun hHeld => ?_)
  clear hK K
  refine tN 39 ?_
  refine last_ (i := 10) (N := some 40) #[true, true, true, true, true, true, true, true, true, true, true, false, false] rfl rfl (one_of HT_.out (by kernel_rfl)) (by decide) (fun K hK => ?_)
  refine Kd.R_append_step (Kd.int .i64) (w0 := w) w.heap.size (by rfl) (.tmp 31) (.tmp 39) 25 2 (.int .i64 0) 8 rfl Try.underlying25 info2 rfl (by decide) (by omega) u332001 x332001_1 (Go.bits .xor .i64 (rd l0_1 x25_1) (rd l1_1 x25_1)) [.int .i64 (Go.bits .xor .i64 (rd l0_1 x25_1) (rd l1_1 x25_1))] (fun k_ => (w.heap.size ≤ k_)) (fun _ => False) rfl rfl ?aP (fun _ hk => hk.elim) ?aF ?aO ?aB ?aS ?aL ?_
  (case aP => exact rfl)
  (case aB => exact tB)
  (case aF => exact (fun k_ hk => (Nat.le_trans (bQZ tB) hk)))
  (case aO => exact (tR HO_332001.out))
  (case aS => exact (bQZ tB))
  (case aL => have := LMc28.out; omega)
  intro v335 w30 ho hb hg hat
  rw [← Ny334.out] at ho
  have n0_ := Aq.mk (Kd.V_afterv (ok := (fun k_ => ((P0_1_ k_ ∨ P1_1_ k_) ∨ w.heap.size ≤ k_) ∧ k_ ≠ gb324 ∧ k_ ≠ gb325 ∧ k_ ≠ gb326 ∧ k_ ≠ gb331)) (by (with_reducible repeat (first | apply Kd.V_alloc | apply Kd.V_drewN | apply Kd.V_drew)); exact Kd.V_mono HO_23.out (fun _ hk => ⟨⟨hk.1, ⟨hk.2.2.1, ⟨hk.2.2.2.1, ⟨hk.2.2.2.2.1, hk.2.2.2.2.2⟩⟩⟩⟩, hk.2.1⟩)) hg hat)
  have n1_ := Aq.mk (Kd.V_afterv (ok := (fun k_ => ((P0_1_ k_ ∨ P1_1_ k_) ∨ w.heap.size ≤ k_) ∧ k_ ≠ gb324 ∧ k_ ≠ gb325 ∧ k_ ≠ gb326 ∧ k_ ≠ gb331)) (by (with_reducible repeat (first | apply Kd.V_alloc | apply Kd.V_drewN | apply Kd.V_drew)); exact Kd.V_mono HO_325001.out (fun _ hk => ⟨⟨hk.1, ⟨hk.2.2.1, ⟨hk.2.2.2.1, ⟨hk.2.2.2.2.1, hk.2.2.2.2.2⟩⟩⟩⟩, hk.2.1⟩)) hg hat)
  have n2_ := Aq.mk (Kd.V_afterv (ok := (fun k_ => ((P0_1_ k_ ∨ P1_1_ k_) ∨ w.heap.size ≤ k_) ∧ k_ ≠ gb324 ∧ k_ ≠ gb325 ∧ k_ ≠ gb326 ∧ k_ ≠ gb331)) (by (with_reducible repeat (first | apply Kd.V_alloc | apply Kd.V_drewN | apply Kd.V_drew)); exact Kd.V_mono HO_326001.out (fun _ hk => ⟨⟨hk.1, ⟨hk.2.2.1, ⟨hk.2.2.2.1, ⟨hk.2.2.2.2.1, hk.2.2.2.2.2⟩⟩⟩⟩, hk.2.1⟩)) hg hat)
  have n3_ := Aq.mk (blk_grown (g := gb324) (o := .cells #[.int .i64 a0_0, .slice (some ad332) l0_1.length c0_1] 27 (0, 0)) (tG BK324.out) hg (Kd.R_ne HO_332001.out BK324.out (by decide)))
  have n4_ := Aq.mk (blk_grown (g := gb325) (o := .cells #[.int .i64 a1_0, .slice (some ad333) l1_1.length c1_1] 27 (0, 0)) (tG BK325.out) hg (Kd.R_ne HO_332001.out BK325.out (by decide)))
  have n5_ := Aq.mk (blk_grown (g := gb326) (o := .cells #[.int .i64 0, .slice none 0 0] 27 (0, 0)) (tG BK326.out) hg (Kd.R_ne HO_332001.out BK326.out (by decide)))
  have n6_ := Aq.mk (blk_grown (g := gb331) (o := .cells #[.int .i64 a0_0, u332001] 27 (0, 0)) (tG BK331.out) hg (Kd.R_ne HO_332001.out BK331.out (by decide)))
  have n7_ := Aq.mk (hb)
  have n8_ := Aq.mk (ho)
  clear HO_23
  clear HO_325001
  clear HO_326001
  clear BK324
  clear BK325
  clear BK326
  clear BK331
  clear HB
  clear HO_332001
  have HO_23 := n0_
  have HO_325001 := n1_
  have HO_326001 := n2_
  have BK324 := n3_
  have BK325 := n4_
  have BK326 := n5_
  have BK331 := n6_
  have HB := n7_
  have HO336 := n8_
  clear n0_ n1_ n2_ n3_ n4_ n5_ n6_ n7_ n8_
  clear ho hb hg hat
  obtain ⟨Ao31, co31, eo31⟩ := Kd.R_slice HO336.out
  (first | subst eo31 | (injection eo31 with f1_ f2_ f3_; have f4_ := f1_.symm; have f5_ := f3_.symm; clear f1_ f2_ f3_; subst f4_; subst f5_))
  refine hK.out _ _ ?_
  clear hK K
  refine tN 40 ?_
  refine tP0 11 41 (bm 13 4095) ?_
  refine last_ (i := 12) (N := none) #[true, true, true, true, true, true, true, true, true, true, true, true, true] rfl rfl (one_of HT_.out (by kernel_rfl)) (by decide) (fun K hK => ?_)
  have hs32 : w30.cell? ⟨gb331, 1, none⟩ = some (u332001) := (kQC BK331.out 1).trans rfl
  have hfs32 := kQF BK331.out 1
  have hns32_0 := NB324_331.out
  have hns32_1 := NB325_331.out
  have hns32_2 := NB326_331.out
  have hms32_0 := NB331_324.out
  have hms32_1 := NB331_325.out
  have hms32_2 := NB331_326.out
  refine skip_ (w1 := ?_) (by rfl) rfl ?_ ?_
  rotate_left
  ·go_simp
   rfl
  refine hK.out _ _ ?_
  clear hK K
  refine done_ (done_of HT_.out (by kernel_rfl)) ?_
  try go_wp2
  go_roundg k1
  case measure => have := HK1.out; omega
  case rel => exact ⟨(wrap64 (x25_1 + 1)), (y334), (.slice Ao31 y334.length co31), tS, H', ⟨by have := HK1.out; omega⟩, ⟨by (with_reducible repeat (first | apply Kd.V_alloc | apply Kd.V_drewN | apply Kd.V_drew)); exact Kd.V_mono (Kd.V_far (p := ⟨gb331, 1, none⟩) (Kd.V_mono HO_23.out (fun k_ hk => (⟨hk, hk.1.2.2.2.2⟩ : _ ∧ k_ ≠ gb331))) (fun _ hk => hk.2) (.slice Ao31 y334.length co31)) (fun _ hk => ⟨hk.1.1.1, ⟨hk.1.2, ⟨hk.1.1.2.1, ⟨hk.1.1.2.2.1, ⟨hk.1.1.2.2.2.1, hk.1.1.2.2.2.2⟩⟩⟩⟩⟩)⟩, ⟨by (with_reducible repeat (first | apply Kd.V_alloc | apply Kd.V_drewN | apply Kd.V_drew)); exact Kd.V_mono (Kd.V_far (p := ⟨gb331, 1, none⟩) (Kd.V_mono HO_325001.out (fun k_ hk => (⟨hk, hk.1.2.2.2.2⟩ : _ ∧ k_ ≠ gb331))) (fun _ hk => hk.2) (.slice Ao31 y334.length co31)) (fun _ hk => ⟨hk.1.1.1, ⟨hk.1.2, ⟨hk.1.1.2.1, ⟨hk.1.1.2.2.1, ⟨hk.1.1.2.2.2.1, hk.1.1.2.2.2.2⟩⟩⟩⟩⟩)⟩, ⟨by (with_reducible repeat (first | apply Kd.V_alloc | apply Kd.V_drewN | apply Kd.V_drew)); exact Kd.V_mono (Kd.V_far (p := ⟨gb331, 1, none⟩) (Kd.V_mono HO_326001.out (fun k_ hk => (⟨hk, hk.1.2.2.2.2⟩ : _ ∧ k_ ≠ gb331))) (fun _ hk => hk.2) (.slice Ao31 y334.length co31)) (fun _ hk => ⟨hk.1.1.1, ⟨hk.1.2, ⟨hk.1.1.2.1, ⟨hk.1.1.2.2.1, ⟨hk.1.1.2.2.2.1, hk.1.1.2.2.2.2⟩⟩⟩⟩⟩)⟩, ⟨by (with_reducible repeat (first | apply Kd.RqA | apply Kd.RqN | apply Kd.RqD)); exact Kd.R_mono (Kd.R_far (p := ⟨gb331, 1, none⟩) (Kd.R_types HO336.out BK331.out (by decide)) (fun _ hk => hk.2) (.slice Ao31 y334.length co31)) (fun _ hk => hk.1)⟩, ⟨by (with_reducible repeat (first | refine kQN ?_ _ | refine kQD ?_ | refine kQA ?_ _)); refine kQR ?_ NB324_331.out _; (with_reducible repeat (first | refine kQN ?_ _ | refine kQD ?_ | refine kQA ?_ _)); exact BK324.out⟩, ⟨by (with_reducible repeat (first | refine kQN ?_ _ | refine kQD ?_ | refine kQA ?_ _)); refine kQR ?_ NB325_331.out _; (with_reducible repeat (first | refine kQN ?_ _ | refine kQD ?_ | refine kQA ?_ _)); exact BK325.out⟩, ⟨by (with_reducible repeat (first | refine kQN ?_ _ | refine kQD ?_ | refine kQA ?_ _)); refine kQR ?_ NB326_331.out _; (with_reducible repeat (first | refine kQN ?_ _ | refine kQD ?_ | refine kQA ?_ _)); exact BK326.out⟩, ⟨by (with_reducible repeat (first | refine kQN ?_ _ | refine kQD ?_ | refine kQA ?_ _)); refine kQP (cs := #[.int .i64 a0_0, u332001]) ?_ 1 _ rfl; (with_reducible repeat (first | refine kQN ?_ _ | refine kQD ?_ | refine kQA ?_ _)); exact BK331.out⟩, ⟨tB⟩⟩
end Go.Proofs.Ythjfilmdobkmlaa.P
