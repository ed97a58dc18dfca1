/- Functions of the program and what they tell, as the printing program wrote it. -/
import Derived.Test.YtkedpfkdnhameaaPx0
import Derived.Test.YtkedpfkdnhameaaPx4
namespace Go.Proofs.Ytkedpfkdnhameaa.P
open Go.Shelf Go.RowKit Go.Proofs.YtkedpfkdnhameaaW.PrintWords Go.Proofs.YtkedpfkdnhameaaW.PrintLast Go.Proofs.YtkedpfkdnhameaaW.PrintMore
attribute [local go_sem] max2_int min2_int max_two min_two max_three min_three max_four min_four
set_option linter.unusedVariables false
set_option linter.unusedSimpArgs false
mutual
def impl_MinimalPoly.l0 : Nat → List Int → List Int → Int → Int → Int → Int → Option (Int × Int)
  | 0, _, _, _, _, _, _ => none
  | k + 1, x7, x26, x27, x28, x201000, x201001 => if x28 < x27 then (if 0 ≤ x28 then (if x28 < (x26.length : Int) then ((some (([0] : List Int) : List Int)).bind fun y212 => (if y212.length + x7.length < 17592186044416 then (impl_MinimalPoly.l1 k (rd x26 x28) (y212 ++ x7) x26 x27 x28 x7 (x7.length : Int) 0 x201000 x201001) else (none))) else (none)) else (none)) else (impl_MinimalPoly.l2 k 0 x7 (x7.length : Int) 0)
def impl_MinimalPoly.l1 : Nat → Int → List Int → List Int → Int → Int → List Int → Int → Int → Int → Int → Option (Int × Int)
  | 0, _, _, _, _, _, _, _, _, _, _ => none
  | k + 1, x9, x10, x26, x27, x28, x35, x36, x37, x201000, x201001 => if x37 < x36 then (if 0 ≤ x37 then (if x37 < (x35.length : Int) then (if x37 < (x10.length : Int) then ((impl_Field_mul.f k x201000 x201001 (rd x35 x37) x9).bind fun t220 => (impl_MinimalPoly.l1 k x9 (x10.set (x37 : Int).toNat (Go.bits .xor .i64 (rd x10 x37) t220)) x26 x27 x28 x35 x36 (wrap64 (x37 + 1)) x201000 x201001)) else (none)) else (none)) else (none)) else (impl_MinimalPoly.l0 k x10 x26 x27 (wrap64 (x28 + 1)) x201000 x201001)
def impl_MinimalPoly.l2 : Nat → Int → List Int → Int → Int → Option (Int × Int)
  | 0, _, _, _, _ => none
  | k + 1, x13, x55, x56, x57 => if x57 < x56 then (if 0 ≤ x57 then (if x57 < (x55.length : Int) then (impl_MinimalPoly.l2 k (Go.bits .or .i64 x13 (shl .i64 (rd x55 x57) x57)) x55 x56 (wrap64 (x57 + 1))) else (none)) else (none)) else (some (x13, 0))
end
def impl_MinimalPoly.f (k : Nat) (a0_0 : Int) (a0_1 : Int) (a1 : Int) : Option (Int × Int) := (impl_Field_code.f k a0_0 a0_1 true (([a1] : List Int))).bind fun t204 => (if t204 = 0 then ((impl_Field_conjugates.f k a0_0 a0_1 a1).bind fun t208 => (impl_MinimalPoly.l0 k (([1] : List Int)) t208 (t208.length : Int) 0 a0_0 a0_1)) else (some (0, t204)))
theorem impl_MinimalPoly.mono_l : ∀ k, (∀ y0 y1 y2 y3 y4 y5, LeO (impl_MinimalPoly.l0 k y0 y1 y2 y3 y4 y5) (impl_MinimalPoly.l0 (k + 1) y0 y1 y2 y3 y4 y5)) ∧ (∀ y0 y1 y2 y3 y4 y5 y6 y7 y8 y9, LeO (impl_MinimalPoly.l1 k y0 y1 y2 y3 y4 y5 y6 y7 y8 y9) (impl_MinimalPoly.l1 (k + 1) y0 y1 y2 y3 y4 y5 y6 y7 y8 y9)) ∧ (∀ y0 y1 y2 y3, LeO (impl_MinimalPoly.l2 k y0 y1 y2 y3) (impl_MinimalPoly.l2 (k + 1) y0 y1 y2 y3))
 | 0 => ⟨fun _ _ _ _ _ _ r h => by simp [impl_MinimalPoly.l0] at h, fun _ _ _ _ _ _ _ _ _ _ r h => by simp [impl_MinimalPoly.l1] at h, fun _ _ _ _ r h => by simp [impl_MinimalPoly.l2] at h⟩
 | k + 1 => by
  obtain ⟨ih0, ih1, ih2⟩ := impl_MinimalPoly.mono_l k
  refine ⟨?_, ?_, ?_⟩
  ·intro y0 y1 y2 y3 y4 y5
   unfold impl_MinimalPoly.l0
   repeat' first
   | (with_reducible first | exact ih0 _ _ _ _ _ _ | exact ih1 _ _ _ _ _ _ _ _ _ _ | exact ih2 _ _ _ _ | exact impl_Field_code.mono _ _ _ _ _ | exact impl_Field_conjugates.mono _ _ _ _ | exact impl_Field_mul.mono _ _ _ _ _ | exact LeO.refl _ | exact LeO.none _ | refine LeO.ite ?_ ?_ | refine LeO.bind ?_ (fun _ => ?_))
   | exact LeO.none _
   | refine LeO.ite ?_ ?_
   | refine LeO.bind ?_ (fun _ => ?_)
  ·intro y0 y1 y2 y3 y4 y5 y6 y7 y8 y9
   unfold impl_MinimalPoly.l1
   repeat' first
   | (with_reducible first | exact ih0 _ _ _ _ _ _ | exact ih1 _ _ _ _ _ _ _ _ _ _ | exact ih2 _ _ _ _ | exact impl_Field_code.mono _ _ _ _ _ | exact impl_Field_conjugates.mono _ _ _ _ | exact impl_Field_mul.mono _ _ _ _ _ | exact LeO.refl _ | exact LeO.none _ | refine LeO.ite ?_ ?_ | refine LeO.bind ?_ (fun _ => ?_))
   | exact LeO.none _
   | refine LeO.ite ?_ ?_
   | refine LeO.bind ?_ (fun _ => ?_)
  ·intro y0 y1 y2 y3
   unfold impl_MinimalPoly.l2
   repeat' first
   | (with_reducible first | exact ih0 _ _ _ _ _ _ | exact ih1 _ _ _ _ _ _ _ _ _ _ | exact ih2 _ _ _ _ | exact impl_Field_code.mono _ _ _ _ _ | exact impl_Field_conjugates.mono _ _ _ _ | exact impl_Field_mul.mono _ _ _ _ _ | exact LeO.refl _ | exact LeO.none _ | refine LeO.ite ?_ ?_ | refine LeO.bind ?_ (fun _ => ?_))
   | exact LeO.none _
   | refine LeO.ite ?_ ?_
   | refine LeO.bind ?_ (fun _ => ?_)
theorem impl_MinimalPoly.mono : ∀ a0 a1 a2 k, LeO (impl_MinimalPoly.f k a0 a1 a2) (impl_MinimalPoly.f (k + 1) a0 a1 a2) := by
 intro a0 a1 a2 k
 obtain ⟨ih0, ih1, ih2⟩ := impl_MinimalPoly.mono_l k
 unfold impl_MinimalPoly.f
 repeat' first
  | (with_reducible first | exact ih0 _ _ _ _ _ _ | exact ih1 _ _ _ _ _ _ _ _ _ _ | exact ih2 _ _ _ _ | exact impl_Field_code.mono _ _ _ _ _ | exact impl_Field_conjugates.mono _ _ _ _ | exact impl_Field_mul.mono _ _ _ _ _ | exact LeO.refl _ | exact LeO.none _ | refine LeO.ite ?_ ?_ | refine LeO.bind ?_ (fun _ => ?_))
  | exact LeO.none _
  | refine LeO.ite ?_ ?_
  | refine LeO.bind ?_ (fun _ => ?_)
def impl_MinimalPoly.T12 : Bool × List (List Nat × List Nat) := (true, [([], []), ([], []), ([0, 1], [0, 1]), ([2], [2]), ([], []), ([], []), ([], []), ([4, 5, 6], [4, 5, 6]), ([3, 7], [3, 7]), ([0, 1, 0, 1, 2, 3, 4, 5, 6, 7, 8], [0, 1]), ([9, 8, 7, 0, 1, 2, 3, 4, 5, 6, 7, 8], [8, 9])])
def impl_MinimalPoly.B12 : List Nat := [0, 0, 3, 7, 0, 0, 0, 112, 255, 511, 1023]
theorem impl_MinimalPoly.tab12 : rtab .any (opsOf Try.f8 12) = impl_MinimalPoly.T12 := by kernel_rfl
theorem impl_MinimalPoly.bits12 : waitsOk impl_MinimalPoly.T12.2 impl_MinimalPoly.B12 = true := by kernel_rfl
set_option maxHeartbeats 8000000 in
set_option maxRecDepth 100000 in
theorem impl_MinimalPoly.calls (k : Nat) (a0_0 : Int) (a0_1 : Int) (a1 : Int) (r1 : Int) (r2 : Int) (w : World) (h : impl_MinimalPoly.f k a0_0 a0_1 a1 = some (r1, r2)) :
 Calls Try.prog 8 #[.agg #[.int .i64 a0_0, .int .i64 a0_1], .int .i64 a1] w fun e w' => e = .returned (.tuple #[.int .i64 r1, .int .i64 r2]) ∧ Below w.heap.size w w' := by
 have hu25 := Try.underlying25
 have HB := Aq.mk (Below.refl w.heap.size w)
 have H : ((impl_Field_code.f k a0_0 a0_1 true (([a1] : List Int))).bind fun t204 => (if t204 = 0 then ((impl_Field_conjugates.f k a0_0 a0_1 a1).bind fun t208 => (impl_MinimalPoly.l0 k (([1] : List Int)) t208 (t208.length : Int) 0 a0_0 a0_1)) else (some (0, t204)))) = some (r1, r2) := h
 clear h
 obtain ⟨y201, hy201⟩ : ∃ y_ : List Int, y_ = (([a1] : List Int)) := ⟨_, rfl⟩
 replace H : ((impl_Field_code.f k a0_0 a0_1 true y201).bind fun t204 => (if t204 = 0 then ((impl_Field_conjugates.f k a0_0 a0_1 a1).bind fun t208 => (impl_MinimalPoly.l0 k (([1] : List Int)) t208 (t208.length : Int) 0 a0_0 a0_1)) else (some (0, t204)))) = some (r1, r2) := by first | (rw [hy201]; with_reducible exact H) | (have H2_ := (Option.bind_some _ _).symm.trans H; rw [hy201]; with_reducible exact H2_) | (have H2_ := (Option.bind_some _ _).symm.trans H; with_reducible exact H2_) | with_reducible exact H | (rw [hy201]; exact H) | exact H
 have Ny201 := Aq.mk hy201
 clear hy201
 replace H := Option.bind_eq_some_iff.mp H
 obtain ⟨t204, A30, H⟩ := H
 replace H : (if t204 = 0 then ((impl_Field_conjugates.f k a0_0 a0_1 a1).bind fun t208 => (impl_MinimalPoly.l0 k (([1] : List Int)) t208 (t208.length : Int) 0 a0_0 a0_1)) else (some (0, t204))) = some (r1, r2) := H
 have A3 := Aq.mk A30
 clear A30
 by_cases c4 : t204 = 0
 ·rw [if_pos c4] at H
  have c4b0 : (t204 == 0) = true := beq_iff_eq.mpr c4
  have c4b1 : (t204 != 0) = false := bne_eq_false_iff_eq.mpr c4
  clear c4
  obtain ⟨y205, hy205⟩ : ∃ y_ : List Int, y_ = (([1] : List Int)) := ⟨_, rfl⟩
  replace H : ((impl_Field_conjugates.f k a0_0 a0_1 a1).bind fun t208 => (impl_MinimalPoly.l0 k y205 t208 (t208.length : Int) 0 a0_0 a0_1)) = some (r1, r2) := by first | (rw [hy205]; with_reducible exact H) | (have H2_ := (Option.bind_some _ _).symm.trans H; rw [hy205]; with_reducible exact H2_) | (have H2_ := (Option.bind_some _ _).symm.trans H; with_reducible exact H2_) | with_reducible exact H | (rw [hy205]; exact H) | exact H
  have Ny205 := Aq.mk hy205
  clear hy205
  replace H := Option.bind_eq_some_iff.mp H
  obtain ⟨t208, A50, H⟩ := H
  replace H : (impl_MinimalPoly.l0 k y205 t208 (t208.length : Int) 0 a0_0 a0_1) = some (r1, r2) := H
  have A5 := Aq.mk A50
  clear A50
  have H' := Aq.mk H
  clear H
  go_enter Try.func8, Try.ntmps8
  go_wp2_with (first | ((with_reducible refine gQd (N := 2) rfl ?_); refine xQe ?hg (N := 2) ?hd (cs := #[.int .i64 a0_0, .int .i64 a0_1]) (t := 25) ?hr ?_; (case hd => rfl); (case hg => rfl); (case hr => first | (go_simp; done) | (go_simp; rfl)); intro gb200 hg w6 hbox hb; have n0_ := Aq.mk (bQT (by repeat (first | (with_reducible first | exact HB.out | apply bQA | apply bQN | apply bQ1) | exact HB.out)) hb); have n1_ := Aq.mk (hbox); have n2_ := Aq.mk ((by rw [hg]; exact (bQZ (by repeat (first | (with_reducible first | exact HB.out | apply bQA | apply bQN | apply bQ1) | exact HB.out))) : w.heap.size ≤ gb200)); have n3_ := Aq.mk ((by rw [hg]; exact (bQZ (by repeat (first | (with_reducible first | exact HB.out | apply bQA | apply bQN | apply bQ1) | exact HB.out))) : w.heap.size ≤ gb200)); clear HB; have HB := n0_; have BK200 := n1_; have GW200 := n2_; have GE200 := n3_; clear n0_ n1_ n2_ n3_; clear hb hbox hg; have hcz7_0 : w6.cell? ⟨gb200, 0, none⟩ = some (.int .i64 a0_0) := (kQC BK200.out 0).trans rfl; have hcz7_1 : w6.cell? ⟨gb200, 1, none⟩ = some (.int .i64 a0_1) := (kQC BK200.out 1).trans rfl; have hfz7_0 := kQF BK200.out 0; have hfz7_1 := kQF BK200.out 1) | ((with_reducible refine gQd (N := 18) rfl ?_); refine Kd.R_lit (Kd.int .i64) _ 2 ?hg (N := 18) ?hd (xs := ([a1] : List Int)) (inner := [.int .i64 a1]) (ok := fun _ => True) (okp := fun _ => True) ?hr ?hp (fun _ hk => hk) trivial (Below.refl _ _) (Nat.le_refl _) (by simp) ?_; (case hd => rfl); (case hg => rfl); (case hr => first | (go_simp; done) | (go_simp; rfl)); (case hp => exact (Reps.one (show Kd.M (Kd.int .i64) _ _ _ a1 [.int .i64 a1] from rfl) (Reps.none _ _))); intro v202 w8 ho9 hb hg_ hnew_; clear hg_ hnew_; (first | rw [← Ny201.out] at ho9 | (simp only [Int.reduceToNat] at ho9; rw [← Ny201.out] at ho9)); have n0_ := Aq.mk (Kd.R_lower ho9 (bQZ (by repeat (first | (with_reducible first | exact HB.out | apply bQA | apply bQN | apply bQ1 | refine bQS ?_ GE200.out) | exact HB.out)))); have n1_ := Aq.mk (kQB (g := gb200) (o := .cells #[.int .i64 a0_0, .int .i64 a0_1] 25 (0, 0)) (by (with_reducible repeat (first | refine kQN ?_ _ | refine kQD ?_ | refine kQA ?_ _)); exact BK200.out) hb); have n2_ := Aq.mk (bQT (by repeat (first | (with_reducible first | exact HB.out | apply bQA | apply bQN | apply bQ1 | refine bQS ?_ GE200.out) | exact HB.out)) hb); clear BK200; clear HB; have HO203 := n0_; have BK200 := n1_; have HB := n2_; clear n0_ n1_ n2_; clear hb ho9; obtain ⟨Ao10, co10, eo10⟩ := Kd.R_slice HO203.out; subst eo10) | ((with_reducible refine gQc (f := 19) rfl ?_); refine goesL_ (some 19) rfl rfl Try.func19 (by kernel_rfl) rfl #[.agg #[.int .i64 a0_0, .int .i64 a0_1], .bool true, .slice Ao10 y201.length co10] rfl (by (try simp only [List.map_toArray, List.map_cons, List.map_nil]); first | done | rfl | (simp only [List.length_drop, List.length_take]; rfl)) ?_; (with_reducible refine (impl_Field_code.calls k a0_0 a0_1 true _ _ y201 t204 _ ?side1 ?side2 A3.out).mono ?_); (case side1 => repeat (first | exact (Kd.R_reads' HO203.out).2.2 | (with_reducible refine Kd.CqA ?_ _) | (with_reducible refine Kd.CqN ?_ _) | (with_reducible refine Kd.CqD ?_))); (case side2 => exact (Kd.R_reads' HO203.out).2.1); rintro e w11 ⟨rfl, hb⟩; refine ⟨_, rfl, ?_⟩; have n0_ := Aq.mk (Kd.R_below (by (with_reducible repeat (first | apply Kd.RqA | apply Kd.RqN | apply Kd.RqD)); exact HO203.out) hb); have n1_ := Aq.mk (kQB (g := gb200) (o := .cells #[.int .i64 a0_0, .int .i64 a0_1] 25 (0, 0)) (by (with_reducible repeat (first | refine kQN ?_ _ | refine kQD ?_ | refine kQA ?_ _)); exact BK200.out) hb); have n2_ := Aq.mk (bQT (by repeat (first | (with_reducible first | exact HB.out | apply bQA | apply bQN | apply bQ1 | refine bQS ?_ GE200.out) | exact HB.out)) hb); clear HO203; clear BK200; clear HB; have HO203 := n0_; have BK200 := n1_; have HB := n2_; clear n0_ n1_ n2_; (try clear hb); (try clear hb2); (try clear hk); (try clear hi)) | ((with_reducible refine gQd (N := 23) rfl ?_); refine Kd.R_lit (Kd.int .i64) _ 2 ?hg (N := 23) ?hd (xs := ([1] : List Int)) (inner := [.int .i64 1]) (ok := fun _ => True) (okp := fun _ => True) ?hr ?hp (fun _ hk => hk) trivial (Below.refl _ _) (Nat.le_refl _) (by simp) ?_; (case hd => rfl); (case hg => rfl); (case hr => first | (go_simp; done) | (go_simp; rfl)); (case hp => exact (Reps.one (show Kd.M (Kd.int .i64) _ _ _ 1 [.int .i64 1] from rfl) (Reps.none _ _))); intro v206 w12 ho13 hb hg_ hnew_; clear hg_ hnew_; (first | rw [← Ny205.out] at ho13 | (simp only [Int.reduceToNat] at ho13; rw [← Ny205.out] at ho13)); have n0_ := Aq.mk (Kd.R_elder' (by (with_reducible repeat (first | apply Kd.RqA | apply Kd.RqN | apply Kd.RqD)); exact HO203.out) (Kd.R_base ho13) hb); have n1_ := Aq.mk (Kd.R_lower (Kd.R_new' ho13 (Kd.R_lt (by (with_reducible repeat (first | apply Kd.RqA | apply Kd.RqN | apply Kd.RqD)); exact HO203.out))) (bQZ (by repeat (first | (with_reducible first | exact HB.out | apply bQA | apply bQN | apply bQ1 | refine bQS ?_ GE200.out) | exact HB.out)))); have n2_ := Aq.mk (kQB (g := gb200) (o := .cells #[.int .i64 a0_0, .int .i64 a0_1] 25 (0, 0)) (by (with_reducible repeat (first | refine kQN ?_ _ | refine kQD ?_ | refine kQA ?_ _)); exact BK200.out) hb); have n3_ := Aq.mk (bQT (by repeat (first | (with_reducible first | exact HB.out | apply bQA | apply bQN | apply bQ1 | refine bQS ?_ GE200.out) | exact HB.out)) hb); clear HO203; clear BK200; clear HB; have HO203 := n0_; have HO207 := n1_; have BK200 := n2_; have HB := n3_; clear n0_ n1_ n2_ n3_; clear hb ho13; have hcz14_0 : w12.cell? ⟨gb200, 0, none⟩ = some (.int .i64 a0_0) := (kQC BK200.out 0).trans rfl; have hcz14_1 : w12.cell? ⟨gb200, 1, none⟩ = some (.int .i64 a0_1) := (kQC BK200.out 1).trans rfl; have hfz14_0 := kQF BK200.out 0; have hfz14_1 := kQF BK200.out 1) | ((with_reducible refine gQc (f := 20) rfl ?_); refine goesL_ (some 26) rfl rfl Try.func20 (by kernel_rfl) rfl #[.agg #[.int .i64 a0_0, .int .i64 a0_1], .int .i64 a1] rfl (by (try simp only [List.map_toArray, List.map_cons, List.map_nil]); first | done | rfl | (simp only [List.length_drop, List.length_take]; rfl)) ?_; (with_reducible refine (impl_Field_conjugates.calls k a0_0 a0_1 a1 t208 _ A5.out).mono ?_); rintro e w15 ⟨v209, rfl, ho0, hb⟩; refine ⟨_, rfl, ?_⟩; have n0_ := Aq.mk (Kd.R_elder' (by (with_reducible repeat (first | apply Kd.RqA | apply Kd.RqN | apply Kd.RqD)); exact HO203.out) (Kd.R_base ho0) hb); have n1_ := Aq.mk (Kd.R_elder' (by (with_reducible repeat (first | apply Kd.RqA | apply Kd.RqN | apply Kd.RqD)); exact HO207.out) (Kd.R_base ho0) hb); have n2_ := Aq.mk (Kd.R_lower (Kd.R_new' (Kd.R_new' ho0 (Kd.R_lt (by (with_reducible repeat (first | apply Kd.RqA | apply Kd.RqN | apply Kd.RqD)); exact HO203.out))) (Kd.R_lt (by (with_reducible repeat (first | apply Kd.RqA | apply Kd.RqN | apply Kd.RqD)); exact HO207.out))) (bQZ (by repeat (first | (with_reducible first | exact HB.out | apply bQA | apply bQN | apply bQ1 | refine bQS ?_ GE200.out) | exact HB.out)))); have n3_ := Aq.mk (kQB (g := gb200) (o := .cells #[.int .i64 a0_0, .int .i64 a0_1] 25 (0, 0)) (by (with_reducible repeat (first | refine kQN ?_ _ | refine kQD ?_ | refine kQA ?_ _)); exact BK200.out) hb); have n4_ := Aq.mk (bQT (by repeat (first | (with_reducible first | exact HB.out | apply bQA | apply bQN | apply bQ1 | refine bQS ?_ GE200.out) | exact HB.out)) hb); clear HO203; clear HO207; clear BK200; clear HB; have HO203 := n0_; have HO207 := n1_; have HO210 := n2_; have BK200 := n3_; have HB := n4_; clear n0_ n1_ n2_ n3_ n4_; (try clear hb); (try clear hb2); (try clear hk); (try clear hi); (try clear ho0); obtain ⟨Ao16, co16, eo16⟩ := Kd.R_slice HO210.out; subst eo16))
  go_loopg [7, 28] k (fun kq v7 v28 w' => ∃ (x7_1 : List Int) (x26_1 : List Int) (x28_1 : Int), v28 = .int .i64 x28_1 ∧ Aq (impl_MinimalPoly.l0 kq x7_1 x26_1 (t208.length : Int) x28_1 a0_0 a0_1 = some (r1, r2)) ∧ Aq (kq ≤ k) ∧ Aq (Kd.R (Kd.int .i64) 2 w' w.heap.size (fun k_ => some k_ ≠ ((.slice Ao16 t208.length co16) : Value).ownBlock) v7 x7_1) ∧ Aq (Kd.R (Kd.int .i64) 2 w' w.heap.size (fun k_ => some k_ ≠ (v7 : Value).ownBlock) (.slice Ao16 t208.length co16) x26_1) ∧ Aq (w'.heap[gb200]? = some (.cells #[.int .i64 a0_0, .int .i64 a0_1] 25 (0, 0))) ∧ Aq (Below w.heap.size w w'))
  case atStart => exact ⟨(y205), (t208), (0), (by first | rfl | (simp; done) | (simp [*]; done)), H', ⟨Nat.le_refl _⟩, ⟨by (with_reducible repeat (first | apply Kd.RqA | apply Kd.RqN | apply Kd.RqD)); exact Kd.R_mono HO207.out (fun _ hk => hk.2)⟩, ⟨by (with_reducible repeat (first | apply Kd.RqA | apply Kd.RqN | apply Kd.RqD)); exact Kd.R_mono HO210.out (fun _ hk => hk.2)⟩, ⟨by (with_reducible repeat (first | refine kQN ?_ _ | refine kQD ?_ | refine kQA ?_ _)); exact BK200.out⟩, ⟨by repeat (first | (with_reducible first | exact HB.out | apply bQA | apply bQN | apply bQ1 | refine bQS ?_ GE200.out) | exact HB.out)⟩⟩
  case round =>
   clear H'
   try clear c1
   try clear c2
   try clear p2
   try clear c4
   try clear c4b0
   try clear c4b1
   try clear c8
   try clear hcz14_0
   try clear hcz14_1
   try clear hcz7_0
   try clear hcz7_1
   try clear hfz14_0
   try clear hfz14_1
   try clear hfz7_0
   try clear hfz7_1
   obtain ⟨x7_1, x26_1, x28_1, rfl, HA, HK1, HO_7, HO_26, BK200, HB⟩ := hrel
   have hl26_1 := (Kd.R_reads' HO_26.out).1
   rw [hl26_1] at HO_26
   (try simp only [hl26_1])
   (try simp only [hl26_1] at BK200)
   (try simp only [hl26_1] at HO_7)
   cases gk with
   | zero => exact absurd HA.out (by simp [impl_MinimalPoly.l0])
   | succ k1 =>
    have H := HA.out
    clear HA
    simp only [impl_MinimalPoly.l0] at H
    by_cases c17 : x28_1 < (t208.length : Int)
    ·rw [if_pos c17] at H
     have c17b0 : decide (x28_1 < (t208.length : Int)) = true := decide_eq_true c17
     clear c17
     (try (have c17b0z := c17b0; simp only [hl26_1] at c17b0z))
     by_cases c18 : 0 ≤ x28_1
     ·rw [if_pos c18] at H
      have c18b0 : decide (0 ≤ x28_1) = true := decide_eq_true c18
      clear c18
      (try (have c18b0z := c18b0; simp only [hl26_1] at c18b0z))
      by_cases c19 : x28_1 < (x26_1.length : Int)
      ·rw [if_pos c19] at H
       have c19b0 : decide (x28_1 < (x26_1.length : Int)) = true := decide_eq_true c19
       clear c19
       (try (have c19b0z := c19b0; simp only [hl26_1] at c19b0z))
       obtain ⟨y212, hy212⟩ : ∃ y_ : List Int, y_ = (([0] : List Int)) := ⟨_, rfl⟩
       replace H : (if y212.length + x7_1.length < 17592186044416 then (impl_MinimalPoly.l1 k1 (rd x26_1 x28_1) (y212 ++ x7_1) x26_1 (t208.length : Int) x28_1 x7_1 (x7_1.length : Int) 0 a0_0 a0_1) else (none)) = some (r1, r2) := by first | (rw [hy212]; with_reducible exact H) | (have H2_ := (Option.bind_some _ _).symm.trans H; rw [hy212]; with_reducible exact H2_) | (have H2_ := (Option.bind_some _ _).symm.trans H; with_reducible exact H2_) | with_reducible exact H | (rw [hy212]; exact H) | exact H
       have Ny212 := Aq.mk hy212
       clear hy212
       by_cases c20 : y212.length + x7_1.length < 17592186044416
       ·rw [if_pos c20] at H
        have LMc20 := Aq.mk c20
        clear c20
        obtain ⟨y215, hy215⟩ : ∃ y_ : List Int, y_ = (y212 ++ x7_1) := ⟨_, rfl⟩
        replace H : (impl_MinimalPoly.l1 k1 (rd x26_1 x28_1) y215 x26_1 (t208.length : Int) x28_1 x7_1 (x7_1.length : Int) 0 a0_0 a0_1) = some (r1, r2) := by first | (rw [hy215]; with_reducible exact H) | (have H2_ := (Option.bind_some _ _).symm.trans H; rw [hy215]; with_reducible exact H2_) | (have H2_ := (Option.bind_some _ _).symm.trans H; with_reducible exact H2_) | with_reducible exact H | (rw [hy215]; exact H) | exact H
        have Ny215 := Aq.mk hy215
        clear hy215
        have H' := Aq.mk H
        clear H
        have p211 : 0 ≤ (x28_1 : Int) := of_decide_eq_true (by first | (with_reducible assumption) | assumption)
        have q211 : x28_1 < (x26_1.length : Int) := of_decide_eq_true (by first | (with_reducible assumption) | assumption)
        obtain ⟨ad211, e211, hx211_0⟩ := Kd.at_int (Kd.R_reads' HO_26.out).2.2 x28_1 p211 q211
        cases e211
        replace p211 := eq_true p211
        replace q211 := eq_true q211
        go_wp2_with (first | ((with_reducible refine gQd (N := 32) rfl ?_); refine Kd.R_lit (Kd.int .i64) _ 2 ?hg (N := 32) ?hd (xs := ([0] : List Int)) (inner := [.int .i64 0]) (ok := fun _ => True) (okp := fun _ => True) ?hr ?hp (fun _ hk => hk) trivial (Below.refl _ _) (Nat.le_refl _) (by simp) ?_; (case hd => rfl); (case hg => rfl); (case hr => first | (go_simp; done) | (go_simp; rfl)); (case hp => exact (Reps.one (show Kd.M (Kd.int .i64) _ _ _ 0 [.int .i64 0] from rfl) (Reps.none _ _))); intro v213 w21 ho22 hb hg_ hnew_; clear hg_ hnew_; (first | rw [← Ny212.out] at ho22 | (simp only [Int.reduceToNat] at ho22; rw [← Ny212.out] at ho22)); have n0_ := Aq.mk (Kd.R_elder' (by (with_reducible repeat (first | apply Kd.RqA | apply Kd.RqN | apply Kd.RqD)); exact HO_7.out) (Kd.R_base ho22) hb); have n1_ := Aq.mk (Kd.R_elder' (by (with_reducible repeat (first | apply Kd.RqA | apply Kd.RqN | apply Kd.RqD)); exact HO_26.out) (Kd.R_base ho22) hb); have n2_ := Aq.mk (Kd.R_lower (Kd.R_new' (Kd.R_new' ho22 (Kd.R_lt (by (with_reducible repeat (first | apply Kd.RqA | apply Kd.RqN | apply Kd.RqD)); exact HO_7.out))) (Kd.R_lt (by (with_reducible repeat (first | apply Kd.RqA | apply Kd.RqN | apply Kd.RqD)); exact HO_26.out))) (bQZ (by repeat (first | (with_reducible first | exact HB.out | apply bQA | apply bQN | apply bQ1 | refine bQS ?_ GE200.out) | exact HB.out)))); have n3_ := Aq.mk (kQB (g := gb200) (o := .cells #[.int .i64 a0_0, .int .i64 a0_1] 25 (0, 0)) (by (with_reducible repeat (first | refine kQN ?_ _ | refine kQD ?_ | refine kQA ?_ _)); exact BK200.out) hb); have n4_ := Aq.mk (bQT (by repeat (first | (with_reducible first | exact HB.out | apply bQA | apply bQN | apply bQ1 | refine bQS ?_ GE200.out) | exact HB.out)) hb); clear HO_7; clear HO_26; clear BK200; clear HB; have HO_7 := n0_; have HO_26 := n1_; have HO214 := n2_; have BK200 := n3_; have HB := n4_; clear n0_ n1_ n2_ n3_ n4_; clear hb ho22; obtain ⟨Ao24, co24, eo24⟩ := Kd.R_slice HO_7.out; subst eo24) | ((with_reducible refine gate_builtin (b := .append) (xs := #[.tmp 32, .tmp 33]) rfl ?_); at_builtin; refine Kd.R_append_rows (Kd.int .i64) (w0 := w) w.heap.size rfl (.tmp 32) (.tmp 33) 29 2 (.int .i64 0) 8 rfl Try.underlying29 info2 rfl (by decide) (by omega) v213 y212 x7_1 _ _ _ (fun k_ => some k_ ≠ (.slice Ao24 x7_1.length co24 : Value).ownBlock ∧ some k_ ≠ (.slice (some ad211) x26_1.length co16 : Value).ownBlock) (fun _ => False) rfl rfl ?aO ?aR (fun _ _ h => h) (fun _ h => h.elim) ?aF ?aB ?aS ?aL ?_; (case aR => repeat (first | exact (Kd.R_reads' HO_7.out).2.2 | (with_reducible refine Kd.CqA ?_ _) | (with_reducible refine Kd.CqN ?_ _) | (with_reducible refine Kd.CqD ?_))); (case aB => exact (by repeat (first | (with_reducible first | exact HB.out | apply bQA | apply bQN | apply bQ1 | refine bQS ?_ GE200.out) | exact HB.out))); (case aF => exact (fun k_ hk => ⟨Kd.fresh' (Kd.R_lt (by (with_reducible repeat (first | apply Kd.RqA | apply Kd.RqN | apply Kd.RqD)); exact HO_7.out)) k_ hk, Kd.fresh' (Kd.R_lt (by (with_reducible repeat (first | apply Kd.RqA | apply Kd.RqN | apply Kd.RqD)); exact HO_26.out)) k_ hk⟩)); (case aO => exact (by (with_reducible repeat (first | apply Kd.RqA | apply Kd.RqN | apply Kd.RqD)); exact Kd.R_mono HO214.out (fun _ hk => ⟨hk.1.2, hk.2⟩))); (case aS => exact (bQZ (by repeat (first | (with_reducible first | exact HB.out | apply bQA | apply bQN | apply bQ1 | refine bQS ?_ GE200.out) | exact HB.out)))); (case aL => have := LMc20.out; omega); intro v216 w23 ho hb hg hat; rw [← Ny215.out] at ho; have n0_ := Aq.mk (Kd.R_after (ok := (fun k_ => some k_ ≠ (.slice (some ad211) x26_1.length co16 : Value).ownBlock)) (by (with_reducible repeat (first | apply Kd.RqA | apply Kd.RqN | apply Kd.RqD)); exact HO_7.out) hg hat); have n1_ := Aq.mk (Kd.R_after (ok := (fun k_ => some k_ ≠ (.slice Ao24 x7_1.length co24 : Value).ownBlock)) (by (with_reducible repeat (first | apply Kd.RqA | apply Kd.RqN | apply Kd.RqD)); exact HO_26.out) hg hat); have n2_ := Aq.mk (blk_grown (g := gb200) (o := .cells #[.int .i64 a0_0, .int .i64 a0_1] 25 (0, 0)) (by (with_reducible repeat (first | refine kQN ?_ _ | refine kQD ?_ | refine kQA ?_ _)); exact BK200.out) hg (Kd.R_ne HO214.out BK200.out (by decide))); have n3_ := Aq.mk (hb); have n4_ := Aq.mk (ho); clear HO_7; clear HO_26; clear BK200; clear HB; clear HO214; have HO_7 := n0_; have HO_26 := n1_; have BK200 := n2_; have HB := n3_; have HO217 := n4_; clear n0_ n1_ n2_ n3_ n4_; clear ho hb hg hat))
        go_loopg [37] k1 (fun kq v37 w' => ∃ (x10_2 : List Int) (x37_2 : Int), v37 = .int .i64 x37_2 ∧ Aq (impl_MinimalPoly.l1 kq (rd x26_1 x28_1) x10_2 x26_1 (t208.length : Int) x28_1 x7_1 (x7_1.length : Int) x37_2 a0_0 a0_1 = some (r1, r2)) ∧ Aq (kq ≤ k1) ∧ Aq (Kd.R (Kd.int .i64) 2 w' w.heap.size (fun k_ => some k_ ≠ ((.slice (some ad211) x26_1.length co16) : Value).ownBlock ∧ some k_ ≠ ((.slice Ao24 x7_1.length co24) : Value).ownBlock) v216 x10_2) ∧ Aq (Kd.R (Kd.int .i64) 2 w' w.heap.size (fun k_ => some k_ ≠ (v216 : Value).ownBlock ∧ some k_ ≠ ((.slice Ao24 x7_1.length co24) : Value).ownBlock) (.slice (some ad211) x26_1.length co16) x26_1) ∧ Aq (Kd.R (Kd.int .i64) 2 w' w.heap.size (fun k_ => some k_ ≠ (v216 : Value).ownBlock ∧ some k_ ≠ ((.slice (some ad211) x26_1.length co16) : Value).ownBlock) (.slice Ao24 x7_1.length co24) x7_1) ∧ Aq (w'.heap[gb200]? = some (.cells #[.int .i64 a0_0, .int .i64 a0_1] 25 (0, 0))) ∧ Aq (Below w.heap.size w w'))
        case atStart => exact ⟨(y215), (0), (by first | rfl | (simp; done) | (simp [*]; done)), H', ⟨Nat.le_refl _⟩, ⟨by (try simp only [hl26_1]); (with_reducible repeat (first | apply Kd.RqA | apply Kd.RqN | apply Kd.RqD)); exact Kd.R_mono HO217.out (fun _ hk => ⟨hk.2, hk.1⟩)⟩, ⟨by (try simp only [hl26_1]); (with_reducible repeat (first | apply Kd.RqA | apply Kd.RqN | apply Kd.RqD)); exact Kd.R_mono HO_26.out (fun _ hk => ⟨hk.2, hk.1⟩)⟩, ⟨by (try simp only [hl26_1]); (with_reducible repeat (first | apply Kd.RqA | apply Kd.RqN | apply Kd.RqD)); exact Kd.R_mono HO_7.out (fun _ hk => ⟨hk.2, hk.1⟩)⟩, ⟨by (try simp only [hl26_1]); (with_reducible repeat (first | refine kQN ?_ _ | refine kQD ?_ | refine kQA ?_ _)); exact BK200.out⟩, ⟨by repeat (first | (with_reducible first | exact HB.out | apply bQA | apply bQN | apply bQ1 | refine bQS ?_ GE200.out) | exact HB.out)⟩⟩
        case round =>
         clear H'
         try clear c1
         try clear c2
         try clear p2
         try clear q2
         try clear hx2
         try clear c4
         try clear c4b0
         try clear c4b1
         try clear c8
         try clear c17
         try clear c17b0
         try clear c18
         try clear c18b0
         try clear c19
         try clear c19b0
         try clear c20
         try clear p21
         try clear q21
         try clear hx21
         try clear hcz14_0
         try clear hcz14_1
         try clear hcz7_0
         try clear hcz7_1
         try clear hfz14_0
         try clear hfz14_1
         try clear hfz7_0
         try clear hfz7_1
         try clear hx211_0
         try clear p2
         try clear p211
         try clear q211
         obtain ⟨x10_2, x37_2, rfl, HA, HK2, HO_10, HO_26, HO_35, BK200, HB⟩ := hrel
         cases gk with
         | zero => exact absurd HA.out (by simp [impl_MinimalPoly.l1])
         | succ k2 =>
          have H := HA.out
          clear HA
          simp only [impl_MinimalPoly.l1] at H
          by_cases c25 : x37_2 < (x7_1.length : Int)
          ·rw [if_pos c25] at H
           have c25b0 : decide (x37_2 < (x7_1.length : Int)) = true := decide_eq_true c25
           clear c25
           (try (have c25b0z := c25b0; simp only [hl26_1] at c25b0z))
           by_cases c26 : 0 ≤ x37_2
           ·rw [if_pos c26] at H
            have c26b0 : decide (0 ≤ x37_2) = true := decide_eq_true c26
            clear c26
            (try (have c26b0z := c26b0; simp only [hl26_1] at c26b0z))
            by_cases c27 : x37_2 < (x7_1.length : Int)
            ·rw [if_pos c27] at H
             have c27b0 : decide (x37_2 < (x7_1.length : Int)) = true := decide_eq_true c27
             clear c27
             (try (have c27b0z := c27b0; simp only [hl26_1] at c27b0z))
             by_cases c28 : x37_2 < (x10_2.length : Int)
             ·rw [if_pos c28] at H
              have c28b0 : decide (x37_2 < (x10_2.length : Int)) = true := decide_eq_true c28
              clear c28
              (try (have c28b0z := c28b0; simp only [hl26_1] at c28b0z))
              replace H := Option.bind_eq_some_iff.mp H
              obtain ⟨t220, A290, H⟩ := H
              replace H : (impl_MinimalPoly.l1 k2 (rd x26_1 x28_1) (x10_2.set (x37_2 : Int).toNat (Go.bits .xor .i64 (rd x10_2 x37_2) t220)) x26_1 (t208.length : Int) x28_1 x7_1 (x7_1.length : Int) (wrap64 (x37_2 + 1)) a0_0 a0_1) = some (r1, r2) := H
              have A29 := Aq.mk A290
              clear A290
              obtain ⟨y221, hy221⟩ : ∃ y_ : List Int, y_ = (x10_2.set (x37_2 : Int).toNat (Go.bits .xor .i64 (rd x10_2 x37_2) t220)) := ⟨_, rfl⟩
              replace H : (impl_MinimalPoly.l1 k2 (rd x26_1 x28_1) y221 x26_1 (t208.length : Int) x28_1 x7_1 (x7_1.length : Int) (wrap64 (x37_2 + 1)) a0_0 a0_1) = some (r1, r2) := by first | (rw [hy221]; with_reducible exact H) | (have H2_ := (Option.bind_some _ _).symm.trans H; rw [hy221]; with_reducible exact H2_) | (have H2_ := (Option.bind_some _ _).symm.trans H; with_reducible exact H2_) | with_reducible exact H | (rw [hy221]; exact H) | exact H
              have Ny221 := Aq.mk hy221
              clear hy221
              have H' := Aq.mk H
              clear H
              have p218 : 0 ≤ (x37_2 : Int) := of_decide_eq_true (by first | (with_reducible assumption) | assumption)
              have q218 : x37_2 < (x7_1.length : Int) := of_decide_eq_true (by first | (with_reducible assumption) | assumption)
              obtain ⟨ad218, e218, hx218_0⟩ := Kd.at_int (Kd.R_reads' HO_35.out).2.2 x37_2 p218 q218
              cases e218
              replace p218 := eq_true p218
              replace q218 := eq_true q218
              try go_wp2
              have n0_ := Aq.mk (Kd.RqD HO_10.out)
              have n1_ := Aq.mk (Kd.RqD HO_26.out)
              have n2_ := Aq.mk (Kd.RqD HO_35.out)
              have n3_ := Aq.mk (kQD BK200.out)
              have n4_ := Aq.mk (bQ1 HB.out)
              clear HO_10
              clear HO_26
              clear HO_35
              clear BK200
              clear HB
              have HO_10 := n0_
              have HO_26 := n1_
              have HO_35 := n2_
              have BK200 := n3_
              have HB := n4_
              clear n0_ n1_ n2_ n3_ n4_
              obtain ⟨Ao32, co32, eo32⟩ := Kd.R_slice HO_10.out
              (first | subst eo32 | (injection eo32 with f1_ f2_ f3_; have f4_ := f1_.symm; have f5_ := f3_.symm; clear f1_ f2_ f3_; subst f4_; subst f5_))
              have p219 : 0 ≤ (x37_2 : Int) := of_decide_eq_true (by first | (with_reducible assumption) | assumption)
              have q219 : x37_2 < (x10_2.length : Int) := of_decide_eq_true (by first | (with_reducible assumption) | assumption)
              obtain ⟨ad219, e219, hx219_0⟩ := Kd.at_int (Kd.R_reads' HO_10.out).2.2 x37_2 p219 q219
              cases e219
              replace p219 := eq_true p219
              replace q219 := eq_true q219
              refine start_ (n := 11) (S := fun w' => w'.cell? ⟨gb200, 0, none⟩ = some (.int .i64 a0_0) ∧ w'.cell? ⟨gb200, 1, none⟩ = some (.int .i64 a0_1) ∧ w'.cell? (ad219.add (x37_2).toNat) = some (.int .i64 (rd x10_2 x37_2))) (ds := [10]) #[false, false, false, false, false, false, false, false, false, false, false] (by kernel_rfl) rfl rfl ⟨(kQC BK200.out 0).trans rfl, (kQC BK200.out 1).trans rfl, hx219_0⟩ (fun hHeld => ?_); refine with_tabW impl_MinimalPoly.tab12 impl_MinimalPoly.bits12 (fun HT_ HW_ => ?_)
              generalize wr.drew = w31 at HO_10 HO_26 HO_35 BK200 HB hx219_0 hHeld ⊢
              refine pure_ (i := 0) (N := some 42) (v := ?_) (a' := ?_) #[true, false, false, false, false, false, false, false, false, false, false] rfl rfl (any_of HT_.out (by kernel_rfl)) (fun _ _ _ h => h) (Or.inl ⟨by rfl, ?_⟩) ?_ ?_
              rotate_left
              ·intro w'
               go_simp
               with_reducible rfl
              rotate_left
              ·simp only [Act.put, qSa, qSb, qSc, i64_w, i32_w]
               rfl
              refine pure_ (i := 1) (N := some 43) (v := ?_) (a' := ?_) #[true, true, false, false, false, false, false, false, false, false, false] rfl rfl (any_of HT_.out (by kernel_rfl)) (fun _ _ _ h => h) (Or.inl ⟨by rfl, ?_⟩) ?_ ?_
              rotate_left
              ·intro w'
               go_simp
               with_reducible rfl
              rotate_left
              ·simp only [Act.put, qSa, qSb, qSc, i64_w, i32_w]
               rfl
              refine pure_ (i := 2) (N := some 44) (v := ?_) (a' := ?_) #[true, true, true, false, false, false, false, false, false, false, false] rfl rfl (any_of HT_.out (by kernel_rfl)) (fun _ _ _ h => h) (Or.inl ⟨by rfl, ?_⟩) ?_ ?_
              rotate_left
              ·intro w'
               go_simp
               with_reducible rfl
              rotate_left
              ·simp only [Act.put, qSa, qSb, qSc, i64_w, i32_w]
               rfl
              refine pure_ (i := 5) (N := some 47) (v := ?_) (a' := ?_) #[true, true, true, false, false, true, false, false, false, false, false] rfl rfl (any_of HT_.out (by kernel_rfl)) (fun _ _ _ h => h) (Or.inl ⟨by rfl, ?_⟩) ?_ ?_
              rotate_left
              ·intro w'
               go_simp
               with_reducible rfl
              rotate_left
              ·simp only [Act.put, qSa, qSb, qSc, i64_w, i32_w]
               rfl
              refine pure_ (i := 6) (N := some 48) (v := ?_) (a' := ?_) #[true, true, true, false, false, true, true, false, false, false, false] rfl rfl (any_of HT_.out (by kernel_rfl)) (fun _ _ _ h => h) (Or.inl ⟨by rfl, ?_⟩) ?_ ?_
              rotate_left
              ·intro w'
               go_simp
               with_reducible rfl
              rotate_left
              ·simp only [Act.put, qSa, qSb, qSc, i64_w, i32_w]
               rfl
              refine take_ (i := 3) (N := some 45) (v := ?_) (a' := ?_) #[true, true, true, true, false, true, true, false, false, false, false] rfl rfl (take_ofW HT_.out HW_.out (by kernel_rfl)) (fun _ _ _ h => h) (Or.inl ⟨by rfl, ?_⟩) hHeld ?_ ?_
              rotate_left
              ·rintro w' ⟨s0, s1, s2⟩
               go_simp
               with_reducible rfl
              rotate_left
              ·simp only [Act.put, qSa, qSb, qSc, i64_w, i32_w]
               rfl
              refine take_ (i := 4) (N := some 46) (v := ?_) (a' := ?_) #[true, true, true, true, true, true, true, false, false, false, false] rfl rfl (take_ofW HT_.out HW_.out (by kernel_rfl)) (fun _ _ _ h => h) (Or.inl ⟨by rfl, ?_⟩) hHeld ?_ ?_
              rotate_left
              ·rintro w' ⟨s0, s1, s2⟩
               go_simp
               with_reducible rfl
              rotate_left
              ·simp only [Act.put, qSa, qSb, qSc, i64_w, i32_w]
               rfl
              refine one_ (i := 7) (N := some 49) #[true, true, true, true, true, true, true, true, false, false, false] rfl rfl (one_of HT_.out (by kernel_rfl)) (by decide) (fun K hK => ?_)
              refine goes_ Try.func21 (by kernel_rfl) rfl #[.agg #[.int .i64 a0_0, .int .i64 a0_1], .int .i64 (rd x7_1 x37_2), .int .i64 (rd x26_1 x28_1)] (by rfl) rfl rfl (by (try simp only [List.map_toArray, List.map_cons, List.map_nil]); first | done | rfl | (simp only [List.length_drop, List.length_take]; rfl)) ?_
              with_reducible refine (impl_Field_mul.calls k2 a0_0 a0_1 (rd x7_1 x37_2) (rd x26_1 x28_1) t220 _ A29.out).mono ?_
              rintro e w33 ⟨rfl, hb⟩
              have HS2_ := (hb.cell (World.block_lt_of_cell? _ _ (hHeld.2.2))).trans (hHeld.2.2)
              refine ⟨_, rfl, ?_⟩
              have n0_ := Aq.mk (Kd.R_below (by (with_reducible repeat (first | apply Kd.RqA | apply Kd.RqN | apply Kd.RqD)); exact HO_10.out) hb)
              have n1_ := Aq.mk (Kd.R_below (by (with_reducible repeat (first | apply Kd.RqA | apply Kd.RqN | apply Kd.RqD)); exact HO_26.out) hb)
              have n2_ := Aq.mk (Kd.R_below (by (with_reducible repeat (first | apply Kd.RqA | apply Kd.RqN | apply Kd.RqD)); exact HO_35.out) hb)
              have n3_ := Aq.mk (kQB (g := gb200) (o := .cells #[.int .i64 a0_0, .int .i64 a0_1] 25 (0, 0)) (by (with_reducible repeat (first | refine kQN ?_ _ | refine kQD ?_ | refine kQA ?_ _)); exact BK200.out) hb)
              have n4_ := Aq.mk (bQT (by repeat (first | (with_reducible first | exact HB.out | apply bQA | apply bQN | apply bQ1 | refine bQS ?_ GE200.out) | exact HB.out)) hb)
              clear HO_10
              clear HO_26
              clear HO_35
              clear BK200
              clear HB
              have HO_10 := n0_
              have HO_26 := n1_
              have HO_35 := n2_
              have BK200 := n3_
              have HB := n4_
              clear n0_ n1_ n2_ n3_ n4_
              (try clear hb)
              (try clear hb2)
              (try clear hk)
              (try clear hi)
              have p30 : 0 ≤ (x37_2 : Int) := of_decide_eq_true (by first | (with_reducible assumption) | assumption)
              have q30 : (x37_2 : Int) < ((x10_2.length : Int) : Int) := of_decide_eq_true (by first | (with_reducible assumption) | assumption)
              obtain ⟨go30, co30, eo30, gb30, gl30, cl30, HG30⟩ := Kd.R_form HO_10.out (by omega)
              (first | cases eo30 | (injection eo30 with ea_ en_ ec_; (first | subst ea_ | (injection ea_ with ea_; subst ea_)); subst ec_; clear en_))
              have GB30 := Aq.mk gb30
              have GG30 := Aq.mk HG30
              clear gb30 gl30 HG30
              (first | simp only [add_plain] at hx219_0 | skip)
              obtain ⟨hx30_0, hf30_0⟩ := Kd.R_celln 0 HO_10.out (x37_2 : Int) p30 q30
              replace p30 := eq_true p30
              replace q30 := eq_true q30
              have HP34 := Kd.R_putn HO_10.out (x37_2 : Int) (Go.bits .xor .i64 (rd x10_2 x37_2) t220)
              rw [← Ny221.out] at HP34
              have HQ34 := Aq.mk HP34
              clear HP34
              refine hK.out _ _ ⟨(kQC BK200.out 0).trans rfl, (kQC BK200.out 1).trans rfl, HS2_⟩ (fun hHeld => ?_)
              clear hK K
              refine norm_ (a' := ?_) ?_ ?_
              rotate_left
              ·show Act.put _ (some 49) _ = _
               simp only [Act.put, qSa, qSb, qSc, i64_w, i32_w]
               rfl
              refine pure_ (i := 8) (N := some 50) (v := ?_) (a' := ?_) #[true, true, true, true, true, true, true, true, true, false, false] rfl rfl (any_of HT_.out (by kernel_rfl)) (fun _ _ _ h => h) (Or.inl ⟨by rfl, ?_⟩) ?_ ?_
              rotate_left
              ·intro w'
               go_simp
               with_reducible rfl
              rotate_left
              ·simp only [Act.put, qSa, qSb, qSc, i64_w, i32_w]
               rfl
              refine pure_ (i := 9) (N := some 51) (v := ?_) (a' := ?_) #[true, true, true, true, true, true, true, true, true, true, false] rfl rfl (any_of HT_.out (by kernel_rfl)) (fun _ _ _ h => h) (Or.inl ⟨by rfl, ?_⟩) ?_ ?_
              rotate_left
              ·intro w'
               go_simp
               with_reducible rfl
              rotate_left
              ·simp only [Act.put, qSa, qSb, qSc, i64_w, i32_w]
               rfl
              refine last_ (i := 10) (N := none) #[true, true, true, true, true, true, true, true, true, true, true] rfl rfl (one_of HT_.out (by kernel_rfl)) (by decide) (fun K hK => ?_)
              refine skip_ (w1 := ?_) (by rfl) rfl ?_ ?_
              rotate_left
              ·go_simp
               rfl
              refine hK.out _ _ ?_
              clear hK K
              refine done_ (done_of HT_.out (by kernel_rfl)) ?_
              try go_wp2
              go_roundg k2
              case measure => have := HK1.out; have := HK2.out; omega
              case rel => exact ⟨(y221), (wrap64 (x37_2 + 1)), (by first | rfl | (simp; done) | (simp [*]; done)), H', ⟨by have := HK1.out; have := HK2.out; omega⟩, ⟨by (try simp only [hl26_1]); (with_reducible repeat (first | apply Kd.RqA | apply Kd.RqN | apply Kd.RqD)); exact HQ34.out⟩, ⟨by (try simp only [hl26_1]); (with_reducible repeat (first | apply Kd.RqA | apply Kd.RqN | apply Kd.RqD)); exact Kd.R_mono (Kd.R_far (p := ⟨go30, (x37_2 : Int).toNat, none⟩) (Kd.R_mono HO_26.out (fun k_ hk => (⟨hk, fun e_ => hk.1 (by rw [e_]; rfl)⟩ : _ ∧ k_ ≠ go30))) (fun _ hk => hk.2) (.int .i64 (Go.bits .xor .i64 (rd x10_2 x37_2) t220))) (fun _ hk => ⟨hk.1.1, hk.1.2⟩)⟩, ⟨by (try simp only [hl26_1]); (with_reducible repeat (first | apply Kd.RqA | apply Kd.RqN | apply Kd.RqD)); exact Kd.R_mono (Kd.R_far (p := ⟨go30, (x37_2 : Int).toNat, none⟩) (Kd.R_mono HO_35.out (fun k_ hk => (⟨hk, fun e_ => hk.1 (by rw [e_]; rfl)⟩ : _ ∧ k_ ≠ go30))) (fun _ hk => hk.2) (.int .i64 (Go.bits .xor .i64 (rd x10_2 x37_2) t220))) (fun _ hk => ⟨hk.1.1, hk.1.2⟩)⟩, ⟨by (try simp only [hl26_1]); (with_reducible repeat (first | refine kQN ?_ _ | refine kQD ?_ | refine kQA ?_ _)); refine kQR ?_ (by have h_ := Kd.R_ne HO_10.out BK200.out (by decide); intro e_; exact h_ (by rw [e_]; rfl)) _; (with_reducible repeat (first | refine kQN ?_ _ | refine kQD ?_ | refine kQA ?_ _)); exact BK200.out⟩, ⟨by repeat (first | (with_reducible first | exact HB.out | apply bQA | apply bQN | apply bQ1 | refine bQS ?_ GB30.out | refine bQS ?_ GE200.out) | exact HB.out)⟩⟩
             ·rw [if_neg c28] at H
              exact absurd H (by simp)
            ·rw [if_neg c27] at H
             exact absurd H (by simp)
           ·rw [if_neg c26] at H
            exact absurd H (by simp)
          ·rw [if_neg c25] at H
           have c25b0 : decide (x37_2 < (x7_1.length : Int)) = false := decide_eq_false c25
           clear c25
           (try (have c25b0z := c25b0; simp only [hl26_1] at c25b0z))
           have H' := Aq.mk H
           clear H
           go_wp2
           (try simp only [← hl26_1])
           go_roundg k2
           case measure => have := HK1.out; have := HK2.out; omega
           case rel => exact ⟨(x10_2), (x26_1), (wrap64 (x28_1 + 1)), (by first | rfl | (simp; done) | (simp [*]; done)), H', ⟨by have := HK1.out; have := HK2.out; omega⟩, ⟨by (try simp only [hl26_1]); (with_reducible repeat (first | apply Kd.RqA | apply Kd.RqN | apply Kd.RqD)); exact Kd.R_mono HO_10.out (fun _ hk => hk.1)⟩, ⟨by (try simp only [hl26_1]); (with_reducible repeat (first | apply Kd.RqA | apply Kd.RqN | apply Kd.RqD)); exact Kd.R_mono HO_26.out (fun _ hk => hk.1)⟩, ⟨by (try simp only [hl26_1]); (with_reducible repeat (first | refine kQN ?_ _ | refine kQD ?_ | refine kQA ?_ _)); exact BK200.out⟩, ⟨by repeat (first | (with_reducible first | exact HB.out | apply bQA | apply bQN | apply bQ1 | refine bQS ?_ GE200.out) | exact HB.out)⟩⟩
       ·rw [if_neg c20] at H
        exact absurd H (by simp)
      ·rw [if_neg c19] at H
       exact absurd H (by simp)
     ·rw [if_neg c18] at H
      exact absurd H (by simp)
    ·rw [if_neg c17] at H
     have c17b0 : decide (x28_1 < (t208.length : Int)) = false := decide_eq_false c17
     clear c17
     (try (have c17b0z := c17b0; simp only [hl26_1] at c17b0z))
     have H' := Aq.mk H
     clear H
     obtain ⟨Ao35, co35, eo35⟩ := Kd.R_slice HO_7.out
     subst eo35
     go_wp2
     go_loopg [13, 57] k1 (fun kq v13 v57 w' => ∃ (x13_2 : Int) (x57_2 : Int), v13 = .int .i64 x13_2 ∧ v57 = .int .i64 x57_2 ∧ Aq (impl_MinimalPoly.l2 kq x13_2 x7_1 (x7_1.length : Int) x57_2 = some (r1, r2)) ∧ Aq (kq ≤ k1) ∧ Aq (Kd.R (Kd.int .i64) 2 w' w.heap.size (fun _ => True) (.slice Ao35 x7_1.length co35) x7_1) ∧ Aq (w'.heap[gb200]? = some (.cells #[.int .i64 a0_0, .int .i64 a0_1] 25 (0, 0))) ∧ Aq (Below w.heap.size w w'))
     case atStart => exact ⟨(0), (0), (by first | rfl | (simp; done) | (simp [*]; done)), (by first | rfl | (simp; done) | (simp [*]; done)), H', ⟨Nat.le_refl _⟩, ⟨by (try simp only [hl26_1]); (with_reducible repeat (first | apply Kd.RqA | apply Kd.RqN | apply Kd.RqD)); exact Kd.R_mono HO_7.out (fun _ hk => trivial)⟩, ⟨by (try simp only [hl26_1]); (with_reducible repeat (first | refine kQN ?_ _ | refine kQD ?_ | refine kQA ?_ _)); exact BK200.out⟩, ⟨by repeat (first | (with_reducible first | exact HB.out | apply bQA | apply bQN | apply bQ1 | refine bQS ?_ GE200.out) | exact HB.out)⟩⟩
     case round =>
      clear H'
      try clear c1
      try clear c2
      try clear p2
      try clear q2
      try clear hx2
      try clear p3
      try clear q3
      try clear hx3
      try clear hf3
      try clear c4
      try clear c4b0
      try clear c4b1
      try clear p6
      try clear c8
      try clear c17
      try clear c17b0
      try clear c18
      try clear c18b0
      try clear c19
      try clear c19b0
      try clear c20
      try clear c21
      try clear p21
      try clear q21
      try clear hx21
      try clear c25
      try clear c25b0
      try clear c26
      try clear c26b0
      try clear c27
      try clear c27b0
      try clear c28
      try clear c28b0
      try clear p30
      try clear q30
      try clear hx30
      try clear hf30
      try clear hcz14_0
      try clear hcz14_1
      try clear hcz7_0
      try clear hcz7_1
      try clear hfz14_0
      try clear hfz14_1
      try clear hfz7_0
      try clear hfz7_1
      try clear hx211_0
      try clear hx218_0
      try clear hx219_0
      try clear hx30_0
      try clear p2
      try clear p21
      try clear p211
      try clear p218
      try clear p219
      try clear p30
      try clear q2
      try clear q21
      try clear q211
      try clear q218
      try clear q219
      try clear q30
      obtain ⟨x13_2, x57_2, rfl, rfl, HA, HK2, HO_55, BK200, HB⟩ := hrel
      cases gk with
      | zero => exact absurd HA.out (by simp [impl_MinimalPoly.l2])
      | succ k2 =>
       have H := HA.out
       clear HA
       simp only [impl_MinimalPoly.l2] at H
       by_cases c36 : x57_2 < (x7_1.length : Int)
       ·rw [if_pos c36] at H
        have c36b0 : decide (x57_2 < (x7_1.length : Int)) = true := decide_eq_true c36
        clear c36
        (try (have c36b0z := c36b0; simp only [hl26_1] at c36b0z))
        by_cases c37 : 0 ≤ x57_2
        ·rw [if_pos c37] at H
         have c37b0 : decide (0 ≤ x57_2) = true := decide_eq_true c37
         clear c37
         (try (have c37b0z := c37b0; simp only [hl26_1] at c37b0z))
         by_cases c38 : x57_2 < (x7_1.length : Int)
         ·rw [if_pos c38] at H
          have c38b0 : decide (x57_2 < (x7_1.length : Int)) = true := decide_eq_true c38
          clear c38
          (try (have c38b0z := c38b0; simp only [hl26_1] at c38b0z))
          have c39b0 := eq_true (of_decide_eq_true (by first | (with_reducible assumption) | assumption) : 0 ≤ x57_2)
          obtain ⟨ji40, hji40⟩ : ∃ j_ : Int, (shl .i64 (rd x7_1 x57_2) x57_2) = j_ := ⟨_, rfl⟩
          replace H : (impl_MinimalPoly.l2 k2 (Go.bits .or .i64 x13_2 (ji40)) x7_1 (x7_1.length : Int) (wrap64 (x57_2 + 1))) = some (r1, r2) := by first | (rw [hji40] at H; exact H) | (simp only [hji40] at H ⊢; exact H)
          have hji40_ : (IntKind.i64.wrap ((rd x7_1 x57_2) * 2 ^ min x57_2.toNat 64)) = ji40 := hji40
          have hji40z : x57_2 ≤ 64 → (IntKind.i64.wrap ((rd x7_1 x57_2) * 2 ^ x57_2.toNat)) = ji40 := shl_small hji40
          have hji40y : (wrap64 ((rd x7_1 x57_2) * 2 ^ min x57_2.toNat 64)) = ji40 := (i64_w _).symm.trans hji40_
          have hji40x : x57_2 ≤ 64 → (wrap64 ((rd x7_1 x57_2) * 2 ^ x57_2.toNat)) = ji40 := fun h_ => (i64_w _).symm.trans (hji40z h_)
          have H' := Aq.mk H
          clear H
          have p222 : 0 ≤ (x57_2 : Int) := of_decide_eq_true (by first | (with_reducible assumption) | assumption)
          have q222 : x57_2 < (x7_1.length : Int) := of_decide_eq_true (by first | (with_reducible assumption) | assumption)
          obtain ⟨ad222, e222, hx222_0⟩ := Kd.at_int (Kd.R_reads' HO_55.out).2.2 x57_2 p222 q222
          cases e222
          replace p222 := eq_true p222
          replace q222 := eq_true q222
          go_wp2
          go_roundg k2
          case measure => have := HK1.out; have := HK2.out; omega
          case rel => exact ⟨(Go.bits .or .i64 x13_2 (ji40)), (wrap64 (x57_2 + 1)), (by first | rfl | (simp; done) | (simp only [← hji40] <;> (first | rfl | simp)) | (simp [*]; done)), (by first | rfl | (simp; done) | (simp [*]; done)), H', ⟨by have := HK1.out; have := HK2.out; omega⟩, ⟨by (try simp only [hl26_1]); (with_reducible repeat (first | apply Kd.RqA | apply Kd.RqN | apply Kd.RqD)); exact HO_55.out⟩, ⟨by (try simp only [hl26_1]); (with_reducible repeat (first | refine kQN ?_ _ | refine kQD ?_ | refine kQA ?_ _)); exact BK200.out⟩, ⟨by repeat (first | (with_reducible first | exact HB.out | apply bQA | apply bQN | apply bQ1 | refine bQS ?_ GE200.out) | exact HB.out)⟩⟩
         ·rw [if_neg c38] at H
          exact absurd H (by simp)
        ·rw [if_neg c37] at H
         exact absurd H (by simp)
       ·rw [if_neg c36] at H
        have c36b0 : decide (x57_2 < (x7_1.length : Int)) = false := decide_eq_false c36
        clear c36
        (try (have c36b0z := c36b0; simp only [hl26_1] at c36b0z))
        simp only [Option.some.injEq, Prod.mk.injEq] at H
        obtain ⟨rfl, rfl⟩ := H
        go_wp2
        go_ret2
        exact ⟨by first | rfl | (simp [errW_none, errW_some] <;> rfl) | (simp [*, errW_none, errW_some] <;> rfl), by repeat (first | (with_reducible first | exact HB.out | apply bQA | apply bQN | apply bQ1 | refine bQS ?_ GE200.out) | exact HB.out)⟩
 ·rw [if_neg c4] at H
  have c4b0 : (t204 == 0) = false := beq_eq_false_iff_ne.mpr c4
  have c4b1 : (t204 != 0) = true := bne_iff_ne.mpr c4
  simp only [Option.some.injEq, Prod.mk.injEq] at H
  obtain ⟨rfl, rfl⟩ := H
  go_enter Try.func8, Try.ntmps8
  go_wp2_with (first | ((with_reducible refine gQd (N := 2) rfl ?_); refine xQe ?hg (N := 2) ?hd (cs := #[.int .i64 a0_0, .int .i64 a0_1]) (t := 25) ?hr ?_; (case hd => rfl); (case hg => rfl); (case hr => first | (go_simp; done) | (go_simp; rfl)); intro gb200 hg w41 hbox hb; have n0_ := Aq.mk (bQT (by repeat (first | (with_reducible first | exact HB.out | apply bQA | apply bQN | apply bQ1) | exact HB.out)) hb); have n1_ := Aq.mk (hbox); have n2_ := Aq.mk ((by rw [hg]; exact (bQZ (by repeat (first | (with_reducible first | exact HB.out | apply bQA | apply bQN | apply bQ1) | exact HB.out))) : w.heap.size ≤ gb200)); have n3_ := Aq.mk ((by rw [hg]; exact (bQZ (by repeat (first | (with_reducible first | exact HB.out | apply bQA | apply bQN | apply bQ1) | exact HB.out))) : w.heap.size ≤ gb200)); clear HB; have HB := n0_; have BK200 := n1_; have GW200 := n2_; have GE200 := n3_; clear n0_ n1_ n2_ n3_; clear hb hbox hg; have hcz42_0 : w41.cell? ⟨gb200, 0, none⟩ = some (.int .i64 a0_0) := (kQC BK200.out 0).trans rfl; have hcz42_1 : w41.cell? ⟨gb200, 1, none⟩ = some (.int .i64 a0_1) := (kQC BK200.out 1).trans rfl; have hfz42_0 := kQF BK200.out 0; have hfz42_1 := kQF BK200.out 1) | ((with_reducible refine gQd (N := 18) rfl ?_); refine Kd.R_lit (Kd.int .i64) _ 2 ?hg (N := 18) ?hd (xs := ([a1] : List Int)) (inner := [.int .i64 a1]) (ok := fun _ => True) (okp := fun _ => True) ?hr ?hp (fun _ hk => hk) trivial (Below.refl _ _) (Nat.le_refl _) (by simp) ?_; (case hd => rfl); (case hg => rfl); (case hr => first | (go_simp; done) | (go_simp; rfl)); (case hp => exact (Reps.one (show Kd.M (Kd.int .i64) _ _ _ a1 [.int .i64 a1] from rfl) (Reps.none _ _))); intro v202 w43 ho44 hb hg_ hnew_; clear hg_ hnew_; (first | rw [← Ny201.out] at ho44 | (simp only [Int.reduceToNat] at ho44; rw [← Ny201.out] at ho44)); have n0_ := Aq.mk (Kd.R_lower ho44 (bQZ (by repeat (first | (with_reducible first | exact HB.out | apply bQA | apply bQN | apply bQ1 | refine bQS ?_ GE200.out) | exact HB.out)))); have n1_ := Aq.mk (kQB (g := gb200) (o := .cells #[.int .i64 a0_0, .int .i64 a0_1] 25 (0, 0)) (by (with_reducible repeat (first | refine kQN ?_ _ | refine kQD ?_ | refine kQA ?_ _)); exact BK200.out) hb); have n2_ := Aq.mk (bQT (by repeat (first | (with_reducible first | exact HB.out | apply bQA | apply bQN | apply bQ1 | refine bQS ?_ GE200.out) | exact HB.out)) hb); clear BK200; clear HB; have HO203 := n0_; have BK200 := n1_; have HB := n2_; clear n0_ n1_ n2_; clear hb ho44; obtain ⟨Ao45, co45, eo45⟩ := Kd.R_slice HO203.out; subst eo45) | ((with_reducible refine gQc (f := 19) rfl ?_); refine goesL_ (some 19) rfl rfl Try.func19 (by kernel_rfl) rfl #[.agg #[.int .i64 a0_0, .int .i64 a0_1], .bool true, .slice Ao45 y201.length co45] rfl (by (try simp only [List.map_toArray, List.map_cons, List.map_nil]); first | done | rfl | (simp only [List.length_drop, List.length_take]; rfl)) ?_; (with_reducible refine (impl_Field_code.calls k a0_0 a0_1 true _ _ y201 t204 _ ?side1 ?side2 A3.out).mono ?_); (case side1 => repeat (first | exact (Kd.R_reads' HO203.out).2.2 | (with_reducible refine Kd.CqA ?_ _) | (with_reducible refine Kd.CqN ?_ _) | (with_reducible refine Kd.CqD ?_))); (case side2 => exact (Kd.R_reads' HO203.out).2.1); rintro e w46 ⟨rfl, hb⟩; refine ⟨_, rfl, ?_⟩; have n0_ := Aq.mk (Kd.R_below (by (with_reducible repeat (first | apply Kd.RqA | apply Kd.RqN | apply Kd.RqD)); exact HO203.out) hb); have n1_ := Aq.mk (kQB (g := gb200) (o := .cells #[.int .i64 a0_0, .int .i64 a0_1] 25 (0, 0)) (by (with_reducible repeat (first | refine kQN ?_ _ | refine kQD ?_ | refine kQA ?_ _)); exact BK200.out) hb); have n2_ := Aq.mk (bQT (by repeat (first | (with_reducible first | exact HB.out | apply bQA | apply bQN | apply bQ1 | refine bQS ?_ GE200.out) | exact HB.out)) hb); clear HO203; clear BK200; clear HB; have HO203 := n0_; have BK200 := n1_; have HB := n2_; clear n0_ n1_ n2_; (try clear hb); (try clear hb2); (try clear hk); (try clear hi)))
  go_ret2
  exact ⟨by first | rfl | (simp [errW_none, errW_some] <;> rfl) | (simp [*, errW_none, errW_some] <;> rfl), by repeat (first | (with_reducible first | exact HB.out | apply bQA | apply bQN | apply bQ1 | refine bQS ?_ GE200.out) | exact HB.out)⟩
end Go.Proofs.Ytkedpfkdnhameaa.P
