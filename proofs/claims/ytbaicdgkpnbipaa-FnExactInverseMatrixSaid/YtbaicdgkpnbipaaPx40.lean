/- Functions of the program and what they tell, as the printing program wrote it. -/
import Derived.Test.YtbaicdgkpnbipaaPx0
import Derived.Test.YtbaicdgkpnbipaaPx4
import Derived.Test.YtbaicdgkpnbipaaPx11
import Derived.Test.YtbaicdgkpnbipaaPx39
namespace Go.Proofs.Ytbaicdgkpnbipaa.P
open Go.Shelf Go.RowKit Go.Proofs.YtbaicdgkpnbipaaW.PrintWords Go.Proofs.YtbaicdgkpnbipaaW.PrintLast Go.Proofs.YtbaicdgkpnbipaaW.PrintMore
attribute [local go_sem] max2_int min2_int max_two min_two max_three min_three max_four min_four
set_option linter.unusedVariables false
set_option linter.unusedSimpArgs false
mutual
def impl_InverseMatrix.l0 : Nat → List Int → List Int → Int → Int → Int → Option (Int × List Int × Int)
  | 0, _, _, _, _, _ => none
  | k + 1, x6, x25, x26, x27, x310000 => if x27 < x26 then (if 0 ≤ x27 then (if x27 < (x25.length : Int) then (if 0 ≤ (wrap64 (x310000 + x27)) then (if x6.length < 17592186044416 then (impl_InverseMatrix.l0 k (x6 ++ [Go.bits .or .i64 (rd x25 x27) (shl .i64 1 (wrap64 (x310000 + x27)))]) x25 x26 (wrap64 (x27 + 1)) x310000) else (none)) else (none)) else (none)) else (none)) else ((impl_echelon.f k x6).bind fun t321 => (impl_InverseMatrix.l1 k t321 (t321.length : Int) 0 x310000 x310000 ([] : List Int)))
def impl_InverseMatrix.l1 : Nat → List Int → Int → Int → Int → Int → List Int → Option (Int × List Int × Int)
  | 0, _, _, _, _, _, _ => none
  | k + 1, x46, x47, x48, x310000, x325000, x325001 => if x48 < x47 then (if 0 ≤ x48 then (if x48 < (x46.length : Int) then (if 0 ≤ x310000 then (if (Go.bits .and .i64 (rd x46 x48) (wrap64 ((shl .i64 1 x310000) - 1))) = (shl .i64 1 x48) then (if x325001.length < 17592186044416 then (impl_InverseMatrix.l1 k x46 x47 (wrap64 (x48 + 1)) x310000 x325000 (x325001 ++ [shr .i64 (rd x46 x48) x310000])) else (none)) else (some (0, ([] : List Int), 4))) else (none)) else (none)) else (none)) else (some (x325000, x325001, 0))
end
def impl_InverseMatrix.f (k : Nat) (a0_0 : Int) (l0_1 : List Int) : Option (Int × List Int × Int) := (impl_size_int64.f l0_1).bind fun t308 => ((impl_matricesCode_AT_impl_InverseMatrix_1.f k a0_0 l0_1 t308 (([(⟨a0_0, l0_1⟩ : S26)] : List (S26)))).bind fun t313 => (if t313 = 0 then (impl_InverseMatrix.l0 k (([] : List Int)) l0_1 (l0_1.length : Int) 0 t308) else (some (0, ([] : List Int), t313))))
theorem impl_InverseMatrix.mono_l : ∀ k, (∀ y0 y1 y2 y3 y4, LeO (impl_InverseMatrix.l0 k y0 y1 y2 y3 y4) (impl_InverseMatrix.l0 (k + 1) y0 y1 y2 y3 y4)) ∧ (∀ y0 y1 y2 y3 y4 y5, LeO (impl_InverseMatrix.l1 k y0 y1 y2 y3 y4 y5) (impl_InverseMatrix.l1 (k + 1) y0 y1 y2 y3 y4 y5))
 | 0 => ⟨fun _ _ _ _ _ r h => by simp [impl_InverseMatrix.l0] at h, fun _ _ _ _ _ _ r h => by simp [impl_InverseMatrix.l1] at h⟩
 | k + 1 => by
  obtain ⟨ih0, ih1⟩ := impl_InverseMatrix.mono_l k
  refine ⟨?_, ?_⟩
  ·intro y0 y1 y2 y3 y4
   unfold impl_InverseMatrix.l0
   repeat' first
   | (with_reducible first | exact ih0 _ _ _ _ _ | exact ih1 _ _ _ _ _ _ | exact impl_echelon.mono _ _ | exact impl_matricesCode_AT_impl_InverseMatrix_1.mono _ _ _ _ _ | exact LeO.refl _ | exact LeO.none _ | refine LeO.ite ?_ ?_ | refine LeO.bind ?_ (fun _ => ?_))
   | exact LeO.none _
   | refine LeO.ite ?_ ?_
   | refine LeO.bind ?_ (fun _ => ?_)
  ·intro y0 y1 y2 y3 y4 y5
   unfold impl_InverseMatrix.l1
   repeat' first
   | (with_reducible first | exact ih0 _ _ _ _ _ | exact ih1 _ _ _ _ _ _ | exact impl_echelon.mono _ _ | exact impl_matricesCode_AT_impl_InverseMatrix_1.mono _ _ _ _ _ | exact LeO.refl _ | exact LeO.none _ | refine LeO.ite ?_ ?_ | refine LeO.bind ?_ (fun _ => ?_))
   | exact LeO.none _
   | refine LeO.ite ?_ ?_
   | refine LeO.bind ?_ (fun _ => ?_)
theorem impl_InverseMatrix.mono : ∀ a0 a1 k, LeO (impl_InverseMatrix.f k a0 a1) (impl_InverseMatrix.f (k + 1) a0 a1) := by
 intro a0 a1 k
 obtain ⟨ih0, ih1⟩ := impl_InverseMatrix.mono_l k
 unfold impl_InverseMatrix.f
 repeat' first
  | (with_reducible first | exact ih0 _ _ _ _ _ | exact ih1 _ _ _ _ _ _ | exact impl_echelon.mono _ _ | exact impl_matricesCode_AT_impl_InverseMatrix_1.mono _ _ _ _ _ | exact LeO.refl _ | exact LeO.none _ | refine LeO.ite ?_ ?_ | refine LeO.bind ?_ (fun _ => ?_))
  | exact LeO.none _
  | refine LeO.ite ?_ ?_
  | refine LeO.bind ?_ (fun _ => ?_)
def impl_InverseMatrix.T16 : Bool × List (List Nat × List Nat) := (true, [([], []), ([], []), ([1], [1]), ([2], [2]), ([0, 3], [0, 3]), ([], []), ([5], [5]), ([4, 6], [4, 6])])
def impl_InverseMatrix.B16 : List Nat := [0, 0, 2, 6, 15, 0, 32, 127]
theorem impl_InverseMatrix.tab16 : rtab .any (opsOf Try.f23 16) = impl_InverseMatrix.T16 := by kernel_rfl
theorem impl_InverseMatrix.bits16 : waitsOk impl_InverseMatrix.T16.2 impl_InverseMatrix.B16 = true := by kernel_rfl
def impl_InverseMatrix.T18 : Bool × List (List Nat × List Nat) := (true, [([], []), ([0], [0]), ([], []), ([], []), ([2, 3], [2, 3]), ([4], [4]), ([1, 5], [1, 5]), ([0, 1, 2, 3, 4, 5, 6], []), ([7, 6, 6, 0, 1, 2, 3, 4, 5, 6], [6, 7])])
def impl_InverseMatrix.B18 : List Nat := [0, 1, 0, 0, 12, 28, 63, 127, 255]
theorem impl_InverseMatrix.tab18 : rtab .any (opsOf Try.f23 18) = impl_InverseMatrix.T18 := by kernel_rfl
theorem impl_InverseMatrix.bits18 : waitsOk impl_InverseMatrix.T18.2 impl_InverseMatrix.B18 = true := by kernel_rfl
set_option maxHeartbeats 8000000 in
set_option maxRecDepth 100000 in
theorem impl_InverseMatrix.calls (k : Nat) (a0_0 : Int) (P0_1_ : Nat → Prop) (A0_1 : Option Addr) (c0_1 : Nat) (l0_1 : List Int) (r1 : Int) (r2 : List Int) (r3 : Int) (w : World) (hs0_1 : Kd.V (Kd.int .i64) 2 w w.heap.size (fun k_ => P0_1_ k_) (.slice A0_1 l0_1.length c0_1) l0_1) (h : impl_InverseMatrix.f k a0_0 l0_1 = some (r1, r2, r3)) :
 Calls Try.prog 23 #[.agg #[.int .i64 a0_0, .slice A0_1 l0_1.length c0_1]] w fun e w' => ∃ v1_ : Value, e = .returned (.tuple #[.agg #[.int .i64 r1, v1_], .int .i64 r3]) ∧ Kd.R (Kd.int .i64) 2 w' w.heap.size (fun k_ => (w.heap.size ≤ k_)) v1_ r2 ∧ Below w.heap.size w w' := by
 have hu26 := Try.underlying26
 have HO0_1 := Aq.mk (show Kd.V (Kd.int .i64) 2 w w.heap.size (fun k_ => (P0_1_ k_ ∨ w.heap.size ≤ k_)) (.slice A0_1 l0_1.length c0_1) l0_1 from Kd.V_mono hs0_1 (fun k_ hk => .inl hk))
 have HB := Aq.mk (Below.refl w.heap.size w)
 have H : ((impl_size_int64.f l0_1).bind fun t308 => ((impl_matricesCode_AT_impl_InverseMatrix_1.f k a0_0 l0_1 t308 (([(⟨a0_0, l0_1⟩ : S26)] : List (S26)))).bind fun t313 => (if t313 = 0 then (impl_InverseMatrix.l0 k (([] : List Int)) l0_1 (l0_1.length : Int) 0 t308) else (some (0, ([] : List Int), t313))))) = some (r1, r2, r3) := h
 clear h
 replace H := Option.bind_eq_some_iff.mp H
 obtain ⟨t308, A20, H⟩ := H
 replace H : ((impl_matricesCode_AT_impl_InverseMatrix_1.f k a0_0 l0_1 t308 (([(⟨a0_0, l0_1⟩ : S26)] : List (S26)))).bind fun t313 => (if t313 = 0 then (impl_InverseMatrix.l0 k (([] : List Int)) l0_1 (l0_1.length : Int) 0 t308) else (some (0, ([] : List Int), t313)))) = some (r1, r2, r3) := H
 have A2 := Aq.mk A20
 clear A20
 obtain ⟨y310, hy310⟩ : ∃ y_ : List (S26), y_ = (([(⟨a0_0, l0_1⟩ : S26)] : List (S26))) := ⟨_, rfl⟩
 replace H : ((impl_matricesCode_AT_impl_InverseMatrix_1.f k a0_0 l0_1 t308 y310).bind fun t313 => (if t313 = 0 then (impl_InverseMatrix.l0 k (([] : List Int)) l0_1 (l0_1.length : Int) 0 t308) else (some (0, ([] : List Int), t313)))) = some (r1, r2, r3) := by first | (rw [hy310]; with_reducible exact H) | (have H2_ := (Option.bind_some _ _).symm.trans H; rw [hy310]; with_reducible exact H2_) | (have H2_ := (Option.bind_some _ _).symm.trans H; with_reducible exact H2_) | with_reducible exact H | (rw [hy310]; exact H) | exact H
 have Ny310 := Aq.mk hy310
 clear hy310
 replace H := Option.bind_eq_some_iff.mp H
 obtain ⟨t313, A30, H⟩ := H
 replace H : (if t313 = 0 then (impl_InverseMatrix.l0 k (([] : List Int)) l0_1 (l0_1.length : Int) 0 t308) else (some (0, ([] : List Int), t313))) = some (r1, r2, r3) := H
 have A3 := Aq.mk A30
 clear A30
 by_cases c4 : t313 = 0
 ·rw [if_pos c4] at H
  have c4b0 : (t313 == 0) = true := beq_iff_eq.mpr c4
  have c4b1 : (t313 != 0) = false := bne_eq_false_iff_eq.mpr c4
  clear c4
  obtain ⟨y314, hy314⟩ : ∃ y_ : List Int, y_ = (([] : List Int)) := ⟨_, rfl⟩
  replace H : (impl_InverseMatrix.l0 k y314 l0_1 (l0_1.length : Int) 0 t308) = some (r1, r2, r3) := by first | (rw [hy314]; with_reducible exact H) | (have H2_ := (Option.bind_some _ _).symm.trans H; rw [hy314]; with_reducible exact H2_) | (have H2_ := (Option.bind_some _ _).symm.trans H; with_reducible exact H2_) | with_reducible exact H | (rw [hy314]; exact H) | exact H
  have Ny314 := Aq.mk hy314
  clear hy314
  have H' := Aq.mk H
  clear H
  go_enter Try.func23, Try.ntmps23
  go_wp2_with (first | ((with_reducible refine gQd (N := 1) rfl ?_); refine xQe ?hg (N := 1) ?hd (cs := #[.int .i64 a0_0, .slice A0_1 l0_1.length c0_1]) (t := 26) ?hr ?_; (case hd => rfl); (case hg => rfl); (case hr => first | (go_simp; done) | (go_simp; rfl)); intro gb306 hg w5 hbox hb; have n0_ := Aq.mk (Kd.V_below (Kd.V_elderB (by (with_reducible repeat (first | apply Kd.V_alloc | apply Kd.V_drewN | apply Kd.V_drew)); exact HO0_1.out) gb306 (Nat.le_of_eq hg.symm)) hb); have n1_ := Aq.mk (bQT (by repeat (first | (with_reducible first | exact HB.out | apply bQA | apply bQN | apply bQ1) | exact HB.out)) hb); have n2_ := Aq.mk (hbox); have n3_ := Aq.mk ((by rw [hg]; exact (bQZ (by repeat (first | (with_reducible first | exact HB.out | apply bQA | apply bQN | apply bQ1) | exact HB.out))) : w.heap.size ≤ gb306)); have n4_ := Aq.mk ((by rw [hg]; exact (bQZ (by repeat (first | (with_reducible first | exact HB.out | apply bQA | apply bQN | apply bQ1) | exact HB.out))) : w.heap.size ≤ gb306)); clear HO0_1; clear HB; have HO0_1 := n0_; have HB := n1_; have BK306 := n2_; have GW306 := n3_; have GE306 := n4_; clear n0_ n1_ n2_ n3_ n4_; clear hb hbox hg) | ((with_reducible refine gQd (N := 2) rfl ?_); refine xQe ?hg (N := 2) ?hd (cs := #[.int .i64 0, .slice none 0 0]) (t := 26) ?hr ?_; (case hd => rfl); (case hg => rfl); (case hr => first | (go_simp; done) | (go_simp; rfl)); intro gb307 hg w6 hbox hb; have n0_ := Aq.mk (Kd.V_below (Kd.V_elderB (by (with_reducible repeat (first | apply Kd.V_alloc | apply Kd.V_drewN | apply Kd.V_drew)); exact HO0_1.out) gb307 (Nat.le_of_eq hg.symm)) hb); have n1_ := Aq.mk (kQB (g := gb306) (o := .cells #[.int .i64 a0_0, .slice A0_1 l0_1.length c0_1] 26 (0, 0)) (by (with_reducible repeat (first | refine kQN ?_ _ | refine kQD ?_ | refine kQA ?_ _)); exact BK306.out) hb); have n2_ := Aq.mk (bQT (by repeat (first | (with_reducible first | exact HB.out | apply bQA | apply bQN | apply bQ1 | refine bQS ?_ GE306.out) | exact HB.out)) hb); have n3_ := Aq.mk (hbox); have n4_ := Aq.mk ((by rw [hg]; exact (bQZ (by repeat (first | (with_reducible first | exact HB.out | apply bQA | apply bQN | apply bQ1 | refine bQS ?_ GE306.out) | exact HB.out))) : w.heap.size ≤ gb307)); have n5_ := Aq.mk ((by rw [hg]; exact (bQZ (by repeat (first | (with_reducible first | exact HB.out | apply bQA | apply bQN | apply bQ1 | refine bQS ?_ GE306.out) | exact HB.out))) : w.heap.size ≤ gb307)); have n6_ := Aq.mk ((by rw [hg]; exact Nat.ne_of_lt (blk_lt (g := gb306) (o := .cells #[.int .i64 a0_0, .slice A0_1 l0_1.length c0_1] 26 (0, 0)) (by (with_reducible repeat (first | refine kQN ?_ _ | refine kQD ?_ | refine kQA ?_ _)); exact BK306.out)) : gb306 ≠ gb307)); have n7_ := Aq.mk ((by rw [hg]; exact Nat.ne_of_gt (blk_lt (g := gb306) (o := .cells #[.int .i64 a0_0, .slice A0_1 l0_1.length c0_1] 26 (0, 0)) (by (with_reducible repeat (first | refine kQN ?_ _ | refine kQD ?_ | refine kQA ?_ _)); exact BK306.out)) : gb307 ≠ gb306)); clear HO0_1; clear BK306; clear HB; have HO0_1 := n0_; have BK306 := n1_; have HB := n2_; have BK307 := n3_; have GW307 := n4_; have GE307 := n5_; have NB306_307 := n6_; have NB307_306 := n7_; clear n0_ n1_ n2_ n3_ n4_ n5_ n6_ n7_; clear hb hbox hg; have hnb7 := NB306_307.out; have hnc7 := NB307_306.out; have hcz8_0 : w6.cell? ⟨gb306, 0, none⟩ = some (.int .i64 a0_0) := (kQC BK306.out 0).trans rfl; have hcz8_1 : w6.cell? ⟨gb306, 1, none⟩ = some (.slice A0_1 l0_1.length c0_1) := (kQC BK306.out 1).trans rfl; have hfz8_0 := kQF BK306.out 0; have hfz8_1 := kQF BK306.out 1) | ((with_reducible refine gQc (f := 63) rfl ?_); refine goesL_ (some 14) rfl rfl Try.func63 (by kernel_rfl) rfl #[.slice A0_1 l0_1.length c0_1] rfl (by (try simp only [List.map_toArray, List.map_cons, List.map_nil]); first | done | rfl | (simp only [List.length_drop, List.length_take]; rfl)) ?_; (with_reducible refine (impl_size_int64.calls _ _ l0_1 t308 _ ?side1 ?side2 A2.out).mono ?_); (case side1 => repeat (first | exact (Kd.V_reads' HO0_1.out).2.2 | (with_reducible refine Kd.CqA ?_ _) | (with_reducible refine Kd.CqN ?_ _) | (with_reducible refine Kd.CqD ?_))); (case side2 => exact (Kd.V_reads' HO0_1.out).2.1); rintro e w' ⟨rfl, ⟨nd, rfl⟩⟩; refine ⟨_, rfl, ?_⟩; (try (rw [drewN_self w6]; generalize hq_ : World.drewN w6 _ = w6; have n0_ : Aq (Kd.V (Kd.int .i64) 2 w6 w.heap.size (fun k_ => ((((P0_1_ k_ ∨ w.heap.size ≤ k_)) ∧ k_ ≠ gb306) ∧ k_ ≠ gb307)) (.slice A0_1 l0_1.length c0_1) l0_1) := ⟨by rw [← hq_]; exact (by (with_reducible repeat (first | apply Kd.V_alloc | apply Kd.V_drewN | apply Kd.V_drew)); exact HO0_1.out)⟩; have n1_ : Aq (w6.heap[gb306]? = some (.cells #[.int .i64 a0_0, .slice A0_1 l0_1.length c0_1] 26 (0, 0))) := ⟨by rw [← hq_]; exact (by (with_reducible repeat (first | refine kQN ?_ _ | refine kQD ?_ | refine kQA ?_ _)); exact BK306.out)⟩; have n2_ : Aq (w6.heap[gb307]? = some (.cells #[.int .i64 0, .slice none 0 0] 26 (0, 0))) := ⟨by rw [← hq_]; exact (by (with_reducible repeat (first | refine kQN ?_ _ | refine kQD ?_ | refine kQA ?_ _)); exact BK307.out)⟩; have n3_ : Aq (Below w.heap.size w w6) := ⟨by rw [← hq_]; exact (by repeat (first | (with_reducible first | exact HB.out | apply bQA | apply bQN | apply bQ1 | refine bQS ?_ GE306.out | refine bQS ?_ GE307.out) | exact HB.out))⟩; clear HO0_1 BK306 BK307 HB hq_; have HO0_1 := n0_; have BK306 := n1_; have BK307 := n2_; have HB := n3_; clear n0_ n1_ n2_ n3_))) | ((with_reducible refine gQd (N := 4) rfl ?_); refine xQe ?hg (N := 4) ?hd (cs := #[.int .i64 0]) (t := 2) ?hr ?_; (case hd => rfl); (case hg => rfl); (case hr => first | (go_simp; done) | (go_simp; rfl)); intro gb309 hg w9 hbox hb; have n0_ := Aq.mk (Kd.V_below (Kd.V_elderB (by (with_reducible repeat (first | apply Kd.V_alloc | apply Kd.V_drewN | apply Kd.V_drew)); exact HO0_1.out) gb309 (Nat.le_of_eq hg.symm)) hb); have n1_ := Aq.mk (kQB (g := gb306) (o := .cells #[.int .i64 a0_0, .slice A0_1 l0_1.length c0_1] 26 (0, 0)) (by (with_reducible repeat (first | refine kQN ?_ _ | refine kQD ?_ | refine kQA ?_ _)); exact BK306.out) hb); have n2_ := Aq.mk (kQB (g := gb307) (o := .cells #[.int .i64 0, .slice none 0 0] 26 (0, 0)) (by (with_reducible repeat (first | refine kQN ?_ _ | refine kQD ?_ | refine kQA ?_ _)); exact BK307.out) hb); have n3_ := Aq.mk (bQT (by repeat (first | (with_reducible first | exact HB.out | apply bQA | apply bQN | apply bQ1 | refine bQS ?_ GE306.out | refine bQS ?_ GE307.out) | exact HB.out)) hb); have n4_ := Aq.mk (hbox); have n5_ := Aq.mk ((by rw [hg]; exact (bQZ (by repeat (first | (with_reducible first | exact HB.out | apply bQA | apply bQN | apply bQ1 | refine bQS ?_ GE306.out | refine bQS ?_ GE307.out) | exact HB.out))) : w.heap.size ≤ gb309)); have n6_ := Aq.mk ((by rw [hg]; exact (bQZ (by repeat (first | (with_reducible first | exact HB.out | apply bQA | apply bQN | apply bQ1 | refine bQS ?_ GE306.out | refine bQS ?_ GE307.out) | exact HB.out))) : w.heap.size ≤ gb309)); have n7_ := Aq.mk ((by rw [hg]; exact Nat.ne_of_lt (blk_lt (g := gb306) (o := .cells #[.int .i64 a0_0, .slice A0_1 l0_1.length c0_1] 26 (0, 0)) (by (with_reducible repeat (first | refine kQN ?_ _ | refine kQD ?_ | refine kQA ?_ _)); exact BK306.out)) : gb306 ≠ gb309)); have n8_ := Aq.mk ((by rw [hg]; exact Nat.ne_of_gt (blk_lt (g := gb306) (o := .cells #[.int .i64 a0_0, .slice A0_1 l0_1.length c0_1] 26 (0, 0)) (by (with_reducible repeat (first | refine kQN ?_ _ | refine kQD ?_ | refine kQA ?_ _)); exact BK306.out)) : gb309 ≠ gb306)); have n9_ := Aq.mk ((by rw [hg]; exact Nat.ne_of_lt (blk_lt (g := gb307) (o := .cells #[.int .i64 0, .slice none 0 0] 26 (0, 0)) (by (with_reducible repeat (first | refine kQN ?_ _ | refine kQD ?_ | refine kQA ?_ _)); exact BK307.out)) : gb307 ≠ gb309)); have n10_ := Aq.mk ((by rw [hg]; exact Nat.ne_of_gt (blk_lt (g := gb307) (o := .cells #[.int .i64 0, .slice none 0 0] 26 (0, 0)) (by (with_reducible repeat (first | refine kQN ?_ _ | refine kQD ?_ | refine kQA ?_ _)); exact BK307.out)) : gb309 ≠ gb307)); clear HO0_1; clear BK306; clear BK307; clear HB; have HO0_1 := n0_; have BK306 := n1_; have BK307 := n2_; have HB := n3_; have BK309 := n4_; have GW309 := n5_; have GE309 := n6_; have NB306_309 := n7_; have NB309_306 := n8_; have NB307_309 := n9_; have NB309_307 := n10_; clear n0_ n1_ n2_ n3_ n4_ n5_ n6_ n7_ n8_ n9_ n10_; clear hb hbox hg; have hnb10 := NB309_306.out; have hnc10 := NB306_309.out; have hnb11 := NB309_307.out; have hnc11 := NB307_309.out; have hcz12_0 : w9.cell? ⟨gb309, 0, none⟩ = some (.int .i64 0) := (kQC BK309.out 0).trans rfl; have hfz12_0 := kQF BK309.out 0) | ((with_reducible refine gate_store (t := 2) (p := 4) rfl ?_); refine store_event (t := 2) (p := 4) (v := ?vo_w13) (w1 := (w9.setCell ⟨gb309, 0, none⟩ (.int .i64 t308))) ?hg ?ho ?hn ?hr ?_; (case ho => rfl); (case hg => rfl); (case hn => rfl); (case hr => first | (go_simp; done) | (go_simp; rfl)); intro w13 hw; have n0_ : Aq (Kd.V (Kd.int .i64) 2 w13 w.heap.size (fun k_ => (P0_1_ k_ ∨ w.heap.size ≤ k_) ∧ k_ ≠ gb306 ∧ k_ ≠ gb307 ∧ k_ ≠ gb309) (.slice A0_1 l0_1.length c0_1) l0_1) := ⟨(by rw [hw]; exact (by (with_reducible repeat (first | apply Kd.V_alloc | apply Kd.V_drewN | apply Kd.V_drew)); exact Kd.V_mono (Kd.V_far (p := ⟨gb309, 0, none⟩) (Kd.V_mono HO0_1.out (fun k_ hk => (⟨hk, hk.2⟩ : _ ∧ k_ ≠ gb309))) (fun _ hk => hk.2) (.int .i64 t308)) (fun _ hk => ⟨hk.1.1.1.1, ⟨hk.1.1.1.2, ⟨hk.1.1.2, hk.1.2⟩⟩⟩)))⟩; have n1_ : Aq (w13.heap[gb306]? = some (.cells #[.int .i64 a0_0, .slice A0_1 l0_1.length c0_1] 26 (0, 0))) := ⟨(by rw [hw]; exact (by (with_reducible repeat (first | refine kQN ?_ _ | refine kQD ?_ | refine kQA ?_ _)); refine kQR ?_ NB306_309.out _; (with_reducible repeat (first | refine kQN ?_ _ | refine kQD ?_ | refine kQA ?_ _)); exact BK306.out))⟩; have n2_ : Aq (w13.heap[gb307]? = some (.cells #[.int .i64 0, .slice none 0 0] 26 (0, 0))) := ⟨(by rw [hw]; exact (by (with_reducible repeat (first | refine kQN ?_ _ | refine kQD ?_ | refine kQA ?_ _)); refine kQR ?_ NB307_309.out _; (with_reducible repeat (first | refine kQN ?_ _ | refine kQD ?_ | refine kQA ?_ _)); exact BK307.out))⟩; have n3_ : Aq (w13.heap[gb309]? = some (.cells #[.int .i64 t308] 2 (0, 0))) := ⟨(by rw [hw]; exact (by (with_reducible repeat (first | refine kQN ?_ _ | refine kQD ?_ | refine kQA ?_ _)); refine kQP (cs := #[.int .i64 0]) ?_ 0 _ rfl; (with_reducible repeat (first | refine kQN ?_ _ | refine kQD ?_ | refine kQA ?_ _)); exact BK309.out))⟩; have n4_ : Aq (Below w.heap.size w w13) := ⟨(by rw [hw]; exact (by repeat (first | (with_reducible first | exact HB.out | apply bQA | apply bQN | apply bQ1 | refine bQS ?_ GE306.out | refine bQS ?_ GE307.out | refine bQS ?_ GE309.out) | exact HB.out)))⟩; clear hw; clear HO0_1; clear BK306; clear BK307; clear BK309; clear HB; have HO0_1 := n0_; have BK306 := n1_; have BK307 := n2_; have BK309 := n3_; have HB := n4_; clear n0_ n1_ n2_ n3_ n4_; have hcz14_0 : w13.cell? ⟨gb306, 0, none⟩ = some (.int .i64 a0_0) := (kQC BK306.out 0).trans rfl; have hcz14_1 : w13.cell? ⟨gb306, 1, none⟩ = some (.slice A0_1 l0_1.length c0_1) := (kQC BK306.out 1).trans rfl; have hfz14_0 := kQF BK306.out 0; have hfz14_1 := kQF BK306.out 1) | ((with_reducible refine gQd (N := 17) rfl ?_); refine Kd.N_lit k26 _ 26 ?hg (N' := 17) ?hd (xs := ([(⟨a0_0, l0_1⟩ : S26)] : List (S26))) (inner := [.int .i64 a0_0, .slice A0_1 l0_1.length c0_1]) (ok := (fun k_ => (P0_1_ k_ ∨ w.heap.size ≤ k_) ∧ k_ ≠ gb306 ∧ k_ ≠ gb307 ∧ k_ ≠ gb309)) (okp := (fun k_ => (P0_1_ k_ ∨ w.heap.size ≤ k_) ∧ k_ ≠ gb306 ∧ k_ ≠ gb307 ∧ k_ ≠ gb309)) ?hr ?hp (fun _ hk => hk) ((show ∀ k_, w13.heap.size ≤ k_ → (fun k_ => (P0_1_ k_ ∨ w.heap.size ≤ k_) ∧ k_ ≠ gb306 ∧ k_ ≠ gb307 ∧ k_ ≠ gb309) k_ from fun k_ hk => ⟨(.inr (Nat.le_trans (bQZ (by repeat (first | (with_reducible first | exact HB.out | apply bQA | apply bQN | apply bQ1 | refine bQS ?_ GE306.out | refine bQS ?_ GE307.out | refine bQS ?_ GE309.out) | exact HB.out))) hk)), Kd.freshB (g := gb306) (o := .cells #[.int .i64 a0_0, .slice A0_1 l0_1.length c0_1] 26 (0, 0)) (by (with_reducible repeat (first | refine kQN ?_ _ | refine kQD ?_ | refine kQA ?_ _)); exact BK306.out) k_ hk, Kd.freshB (g := gb307) (o := .cells #[.int .i64 0, .slice none 0 0] 26 (0, 0)) (by (with_reducible repeat (first | refine kQN ?_ _ | refine kQD ?_ | refine kQA ?_ _)); exact BK307.out) k_ hk, Kd.freshB (g := gb309) (o := .cells #[.int .i64 t308] 2 (0, 0)) (by (with_reducible repeat (first | refine kQN ?_ _ | refine kQD ?_ | refine kQA ?_ _)); exact BK309.out) k_ hk⟩) _ (Nat.le_refl _)) (Below.refl _ _) (Nat.le_refl _) (by simp) ?_; (case hd => rfl); (case hg => rfl); (case hr => first | (go_simp; done) | (go_simp; rfl)); (case hp => exact (Reps.c2 (show Kd.FK k26 _ _ (⟨a0_0, l0_1⟩ : S26) [.int .i64 a0_0, .slice A0_1 l0_1.length c0_1] from (k26_mkF _ _ (⟨a0_0, l0_1⟩ : S26) (Kd.V_reads' (Kd.V_mono (ok' := (fun k_ => (P0_1_ k_ ∨ w.heap.size ≤ k_) ∧ k_ ≠ gb306 ∧ k_ ≠ gb307 ∧ k_ ≠ gb309)) (HO0_1.out) (fun k_ hk => ⟨hk.1, ⟨hk.2.1, ⟨hk.2.2.1, hk.2.2.2⟩⟩⟩))).2.1 (Kd.V_F (Kd.V_mono (ok' := (fun k_ => (P0_1_ k_ ∨ w.heap.size ≤ k_) ∧ k_ ≠ gb306 ∧ k_ ≠ gb307 ∧ k_ ≠ gb309)) (HO0_1.out) (fun k_ hk => ⟨hk.1, ⟨hk.2.1, ⟨hk.2.2.1, hk.2.2.2⟩⟩⟩))))) (Reps.none _ _))); intro v311 w15 ho16 hb hg_ hnew_; clear hg_ hnew_; (first | rw [← Ny310.out] at ho16 | (simp only [Int.reduceToNat] at ho16; rw [← Ny310.out] at ho16)); have n0_ := Aq.mk (Kd.V_elder' (by (with_reducible repeat (first | apply Kd.V_alloc | apply Kd.V_drewN | apply Kd.V_drew)); exact HO0_1.out) (Kd.N_base ho16) hb); have n1_ := Aq.mk (Kd.N_lower ho16 (bQZ (by repeat (first | (with_reducible first | exact HB.out | apply bQA | apply bQN | apply bQ1 | refine bQS ?_ GE306.out | refine bQS ?_ GE307.out | refine bQS ?_ GE309.out) | exact HB.out)))); have n2_ := Aq.mk (kQB (g := gb306) (o := .cells #[.int .i64 a0_0, .slice A0_1 l0_1.length c0_1] 26 (0, 0)) (by (with_reducible repeat (first | refine kQN ?_ _ | refine kQD ?_ | refine kQA ?_ _)); exact BK306.out) hb); have n3_ := Aq.mk (kQB (g := gb307) (o := .cells #[.int .i64 0, .slice none 0 0] 26 (0, 0)) (by (with_reducible repeat (first | refine kQN ?_ _ | refine kQD ?_ | refine kQA ?_ _)); exact BK307.out) hb); have n4_ := Aq.mk (kQB (g := gb309) (o := .cells #[.int .i64 t308] 2 (0, 0)) (by (with_reducible repeat (first | refine kQN ?_ _ | refine kQD ?_ | refine kQA ?_ _)); exact BK309.out) hb); have n5_ := Aq.mk (bQT (by repeat (first | (with_reducible first | exact HB.out | apply bQA | apply bQN | apply bQ1 | refine bQS ?_ GE306.out | refine bQS ?_ GE307.out | refine bQS ?_ GE309.out) | exact HB.out)) hb); clear HO0_1; clear BK306; clear BK307; clear BK309; clear HB; have HO0_1 := n0_; have HO312 := n1_; have BK306 := n2_; have BK307 := n3_; have BK309 := n4_; have HB := n5_; clear n0_ n1_ n2_ n3_ n4_ n5_; clear hb ho16; obtain ⟨Ao17, co17, eo17⟩ := Kd.N_slice HO312.out; subst eo17) | ((with_reducible refine gQc (f := 64) rfl ?_); refine goesL_ (some 18) rfl rfl Try.func64 (by kernel_rfl) rfl #[.func (.func 65) #[] #[.pointer (some ⟨gb306, 0, none⟩), .pointer (some ⟨gb309, 0, none⟩)], .slice Ao17 y310.length co17] rfl (by (try simp only [List.map_toArray, List.map_cons, List.map_nil]); first | done | rfl | (simp only [List.length_drop, List.length_take]; rfl)) ?_; (with_reducible refine (impl_matricesCode_AT_impl_InverseMatrix_1.calls k (⟨gb306, 0, none⟩ : Addr) (⟨gb309, 0, none⟩ : Addr) a0_0 A0_1 c0_1 l0_1 t308 _ _ y310 t313 _ ?side1 ?side2 ?side3 ?side4 ?side5 ?side6 A3.out).mono ?_); (case side1 => repeat (first | exact (Kd.V_reads' HO0_1.out).2.2 | (with_reducible refine Kd.CqA ?_ _) | (with_reducible refine Kd.CqN ?_ _) | (with_reducible refine Kd.CqD ?_))); (case side2 => exact (Kd.V_reads' HO0_1.out).2.1); (case side3 => repeat (first | exact (Kd.N_reads' HO312.out).2.2 | (with_reducible refine Kd.CqA ?_ _) | (with_reducible refine Kd.CqN ?_ _) | (with_reducible refine Kd.CqD ?_))); (case side4 => exact (Kd.N_reads' HO312.out).2.1); (case side5 => exact AtC.of_blk (g := gb306) (t := 26) (cs := #[.int .i64 a0_0, .slice A0_1 l0_1.length c0_1]) (by (with_reducible repeat (first | refine kQN ?_ _ | refine kQD ?_ | refine kQA ?_ _)); exact BK306.out) rfl); (case side6 => exact AtC.of_blk (g := gb309) (t := 2) (cs := #[.int .i64 t308]) (by (with_reducible repeat (first | refine kQN ?_ _ | refine kQD ?_ | refine kQA ?_ _)); exact BK309.out) rfl); rintro e w18 ⟨rfl, hb⟩; refine ⟨_, rfl, ?_⟩; have n0_ := Aq.mk (Kd.V_below (by (with_reducible repeat (first | apply Kd.V_alloc | apply Kd.V_drewN | apply Kd.V_drew)); exact HO0_1.out) hb); have n1_ := Aq.mk (Kd.N_below (by (with_reducible repeat (first | apply Kd.N_alloc | apply Kd.N_drewN | apply Kd.N_drew)); exact HO312.out) hb); have n2_ := Aq.mk (kQB (g := gb306) (o := .cells #[.int .i64 a0_0, .slice A0_1 l0_1.length c0_1] 26 (0, 0)) (by (with_reducible repeat (first | refine kQN ?_ _ | refine kQD ?_ | refine kQA ?_ _)); exact BK306.out) hb); have n3_ := Aq.mk (kQB (g := gb307) (o := .cells #[.int .i64 0, .slice none 0 0] 26 (0, 0)) (by (with_reducible repeat (first | refine kQN ?_ _ | refine kQD ?_ | refine kQA ?_ _)); exact BK307.out) hb); have n4_ := Aq.mk (kQB (g := gb309) (o := .cells #[.int .i64 t308] 2 (0, 0)) (by (with_reducible repeat (first | refine kQN ?_ _ | refine kQD ?_ | refine kQA ?_ _)); exact BK309.out) hb); have n5_ := Aq.mk (bQT (by repeat (first | (with_reducible first | exact HB.out | apply bQA | apply bQN | apply bQ1 | refine bQS ?_ GE306.out | refine bQS ?_ GE307.out | refine bQS ?_ GE309.out) | exact HB.out)) hb); clear HO0_1; clear HO312; clear BK306; clear BK307; clear BK309; clear HB; have HO0_1 := n0_; have HO312 := n1_; have BK306 := n2_; have BK307 := n3_; have BK309 := n4_; have HB := n5_; clear n0_ n1_ n2_ n3_ n4_ n5_; (try clear hb); (try clear hb2); (try clear hk); (try clear hi)) | ((with_reducible refine gQd (N := 23) rfl ?_); refine Kd.R_lit (Kd.int .i64) _ 2 ?hg (N := 23) ?hd (xs := ([] : List Int)) (inner := []) (ok := fun _ => True) (okp := fun _ => True) ?hr ?hp (fun _ hk => hk) trivial (Below.refl _ _) (Nat.le_refl _) (by simp) ?_; (case hd => rfl); (case hg => rfl); (case hr => first | (go_simp; done) | (go_simp; rfl)); (case hp => exact (Reps.none _ _)); intro v315 w19 ho20 hb hg_ hnew_; clear hg_ hnew_; (first | rw [← Ny314.out] at ho20 | (simp only [Int.reduceToNat] at ho20; rw [← Ny314.out] at ho20)); have n0_ := Aq.mk (Kd.V_elder' (by (with_reducible repeat (first | apply Kd.V_alloc | apply Kd.V_drewN | apply Kd.V_drew)); exact HO0_1.out) (Kd.R_base ho20) hb); have n1_ := Aq.mk (Kd.N_elder' (by (with_reducible repeat (first | apply Kd.N_alloc | apply Kd.N_drewN | apply Kd.N_drew)); exact HO312.out) (Kd.R_base ho20) hb); have n2_ := Aq.mk (Kd.R_lower (Kd.R_newB (Kd.R_newM (M := fun k_ => (w.heap.size ≤ k_)) ho20 (bQZ (by repeat (first | (with_reducible first | exact HB.out | apply bQA | apply bQN | apply bQ1 | refine bQS ?_ GE306.out | refine bQS ?_ GE307.out | refine bQS ?_ GE309.out) | exact HB.out))) (fun k_ h_ => h_)) (g := gb309) (o := .cells #[.int .i64 t308] 2 (0, 0)) (by (with_reducible repeat (first | refine kQN ?_ _ | refine kQD ?_ | refine kQA ?_ _)); exact BK309.out)) (bQZ (by repeat (first | (with_reducible first | exact HB.out | apply bQA | apply bQN | apply bQ1 | refine bQS ?_ GE306.out | refine bQS ?_ GE307.out | refine bQS ?_ GE309.out) | exact HB.out)))); have n3_ := Aq.mk (kQB (g := gb306) (o := .cells #[.int .i64 a0_0, .slice A0_1 l0_1.length c0_1] 26 (0, 0)) (by (with_reducible repeat (first | refine kQN ?_ _ | refine kQD ?_ | refine kQA ?_ _)); exact BK306.out) hb); have n4_ := Aq.mk (kQB (g := gb307) (o := .cells #[.int .i64 0, .slice none 0 0] 26 (0, 0)) (by (with_reducible repeat (first | refine kQN ?_ _ | refine kQD ?_ | refine kQA ?_ _)); exact BK307.out) hb); have n5_ := Aq.mk (kQB (g := gb309) (o := .cells #[.int .i64 t308] 2 (0, 0)) (by (with_reducible repeat (first | refine kQN ?_ _ | refine kQD ?_ | refine kQA ?_ _)); exact BK309.out) hb); have n6_ := Aq.mk (bQT (by repeat (first | (with_reducible first | exact HB.out | apply bQA | apply bQN | apply bQ1 | refine bQS ?_ GE306.out | refine bQS ?_ GE307.out | refine bQS ?_ GE309.out) | exact HB.out)) hb); clear HO0_1; clear HO312; clear BK306; clear BK307; clear BK309; clear HB; have HO0_1 := n0_; have HO312 := n1_; have HO316 := n2_; have BK306 := n3_; have BK307 := n4_; have BK309 := n5_; have HB := n6_; clear n0_ n1_ n2_ n3_ n4_ n5_ n6_; clear hb ho20; have hcz21_0 : w19.cell? ⟨gb306, 0, none⟩ = some (.int .i64 a0_0) := (kQC BK306.out 0).trans rfl; have hcz21_1 : w19.cell? ⟨gb306, 1, none⟩ = some (.slice A0_1 l0_1.length c0_1) := (kQC BK306.out 1).trans rfl; have hfz21_0 := kQF BK306.out 0; have hfz21_1 := kQF BK306.out 1))
  go_loopg [6, 27] k (fun kq v6 v27 w' => ∃ (x6_1 : List Int) (x27_1 : Int), v27 = .int .i64 x27_1 ∧ Aq (impl_InverseMatrix.l0 kq x6_1 l0_1 (l0_1.length : Int) x27_1 t308 = some (r1, r2, r3)) ∧ Aq (kq ≤ k) ∧ Aq (Kd.R (Kd.int .i64) 2 w' w.heap.size (fun k_ => (w.heap.size ≤ k_) ∧ k_ ≠ gb309) v6 x6_1) ∧ Aq (Kd.V (Kd.int .i64) 2 w' w.heap.size (fun k_ => (P0_1_ k_ ∨ w.heap.size ≤ k_) ∧ some k_ ≠ (v6 : Value).ownBlock ∧ k_ ≠ gb306 ∧ k_ ≠ gb307 ∧ k_ ≠ gb309) (.slice A0_1 l0_1.length c0_1) l0_1) ∧ Aq (Kd.V (Kd.int .i64) 2 w' w.heap.size (fun k_ => (P0_1_ k_ ∨ w.heap.size ≤ k_) ∧ some k_ ≠ (v6 : Value).ownBlock ∧ k_ ≠ gb306 ∧ k_ ≠ gb307 ∧ k_ ≠ gb309) (.slice A0_1 l0_1.length c0_1) l0_1) ∧ Aq (w'.heap[gb306]? = some (.cells #[.int .i64 a0_0, (.slice A0_1 l0_1.length c0_1)] 26 (0, 0))) ∧ Aq (w'.heap[gb307]? = some (.cells #[.int .i64 0, (.slice none 0 0)] 26 (0, 0))) ∧ Aq (w'.heap[gb309]? = some (.cells #[.int .i64 t308] 2 (0, 0))) ∧ Aq (Below w.heap.size w w'))
  case atStart => exact ⟨(y314), (0), (by first | rfl | (simp; done) | (simp [*]; done)), H', ⟨Nat.le_refl _⟩, ⟨by (with_reducible repeat (first | apply Kd.RqA | apply Kd.RqN | apply Kd.RqD)); exact Kd.R_mono HO316.out (fun _ hk => ⟨hk.1.1, hk.2⟩)⟩, ⟨by (with_reducible repeat (first | apply Kd.V_alloc | apply Kd.V_drewN | apply Kd.V_drew)); exact Kd.V_mono HO0_1.out (fun _ hk => ⟨hk.1.1.1, ⟨hk.2, ⟨hk.1.1.2.1, ⟨hk.1.1.2.2.1, hk.1.1.2.2.2⟩⟩⟩⟩)⟩, ⟨by (with_reducible repeat (first | apply Kd.V_alloc | apply Kd.V_drewN | apply Kd.V_drew)); exact Kd.V_mono HO0_1.out (fun _ hk => ⟨hk.1.1.1, ⟨hk.2, ⟨hk.1.1.2.1, ⟨hk.1.1.2.2.1, hk.1.1.2.2.2⟩⟩⟩⟩)⟩, ⟨by (with_reducible repeat (first | refine kQN ?_ _ | refine kQD ?_ | refine kQA ?_ _)); exact BK306.out⟩, ⟨by (with_reducible repeat (first | refine kQN ?_ _ | refine kQD ?_ | refine kQA ?_ _)); exact BK307.out⟩, ⟨by (with_reducible repeat (first | refine kQN ?_ _ | refine kQD ?_ | refine kQA ?_ _)); exact BK309.out⟩, ⟨by repeat (first | (with_reducible first | exact HB.out | apply bQA | apply bQN | apply bQ1 | refine bQS ?_ GE306.out | refine bQS ?_ GE307.out | refine bQS ?_ GE309.out) | exact HB.out)⟩⟩
  case round =>
   clear H'
   try clear c1
   try clear c2
   try clear p2
   try clear c4
   try clear c4b0
   try clear c4b1
   try clear c6
   try clear c7
   try clear c10
   try clear c11
   try clear hcz12_0
   try clear hcz14_0
   try clear hcz14_1
   try clear hcz21_0
   try clear hcz21_1
   try clear hcz8_0
   try clear hcz8_1
   try clear hfz12_0
   try clear hfz14_0
   try clear hfz14_1
   try clear hfz21_0
   try clear hfz21_1
   try clear hfz8_0
   try clear hfz8_1
   obtain ⟨x6_1, x27_1, rfl, HA, HK1, HO_6, HO_25, HO_307001, BK306, BK307, BK309, HB⟩ := hrel
   cases gk with
   | zero => exact absurd HA.out (by simp [impl_InverseMatrix.l0])
   | succ k1 =>
    have H := HA.out
    clear HA
    simp only [impl_InverseMatrix.l0] at H
    by_cases c22 : x27_1 < (l0_1.length : Int)
    ·rw [if_pos c22] at H
     have c22b0 : decide (x27_1 < (l0_1.length : Int)) = true := decide_eq_true c22
     clear c22
     by_cases c23 : 0 ≤ x27_1
     ·rw [if_pos c23] at H
      have c23b0 : decide (0 ≤ x27_1) = true := decide_eq_true c23
      clear c23
      by_cases c24 : x27_1 < (l0_1.length : Int)
      ·rw [if_pos c24] at H
       have c24b0 : decide (x27_1 < (l0_1.length : Int)) = true := decide_eq_true c24
       clear c24
       obtain ⟨ji25, hji25⟩ : ∃ j_ : Int, (wrap64 (t308 + x27_1)) = j_ := ⟨_, rfl⟩
       replace H : (if 0 ≤ (ji25) then (if x6_1.length < 17592186044416 then (impl_InverseMatrix.l0 k1 (x6_1 ++ [Go.bits .or .i64 (rd l0_1 x27_1) (shl .i64 1 (ji25))]) l0_1 (l0_1.length : Int) (wrap64 (x27_1 + 1)) t308) else (none)) else (none)) = some (r1, r2, r3) := by first | (rw [hji25] at H; exact H) | (simp only [hji25] at H ⊢; exact H)
       have hji25w : (IntKind.i64.wrap (t308 + x27_1)) = ji25 := (i64_w _).trans hji25
       by_cases c26 : 0 ≤ (ji25)
       ·rw [if_pos c26] at H
        have c26b0 := eq_true c26
        have c26b1 : decide (0 ≤ (ji25)) = true := decide_eq_true c26
        clear c26
        obtain ⟨ji27, hji27⟩ : ∃ j_ : Int, (shl .i64 1 (ji25)) = j_ := ⟨_, rfl⟩
        replace H : (if x6_1.length < 17592186044416 then (impl_InverseMatrix.l0 k1 (x6_1 ++ [Go.bits .or .i64 (rd l0_1 x27_1) (ji27)]) l0_1 (l0_1.length : Int) (wrap64 (x27_1 + 1)) t308) else (none)) = some (r1, r2, r3) := by first | (rw [hji27] at H; exact H) | (simp only [hji27] at H ⊢; exact H)
        have hji27_ : (IntKind.i64.wrap (1 * 2 ^ min (ji25).toNat 64)) = ji27 := hji27
        have hji27z : (ji25) ≤ 64 → (IntKind.i64.wrap (1 * 2 ^ (ji25).toNat)) = ji27 := shl_small hji27
        have hji27u : (IntKind.i64.wrap (2 ^ min (ji25).toNat 64)) = ji27 := by have h_ := hji27_; rw [Int.one_mul] at h_; exact h_
        have hji27v : (ji25) ≤ 64 → (IntKind.i64.wrap (2 ^ (ji25).toNat)) = ji27 := fun hle_ => by have h_ := hji27z hle_; rw [Int.one_mul] at h_; exact h_
        have hji27y : (wrap64 (1 * 2 ^ min (ji25).toNat 64)) = ji27 := (i64_w _).symm.trans hji27_
        have hji27x : (ji25) ≤ 64 → (wrap64 (1 * 2 ^ (ji25).toNat)) = ji27 := fun h_ => (i64_w _).symm.trans (hji27z h_)
        by_cases c28 : x6_1.length < 17592186044416
        ·rw [if_pos c28] at H
         have LMc28 := Aq.mk c28
         clear c28
         obtain ⟨y318, hy318⟩ : ∃ y_ : List Int, y_ = (x6_1 ++ [Go.bits .or .i64 (rd l0_1 x27_1) (ji27)]) := ⟨_, rfl⟩
         replace H : (impl_InverseMatrix.l0 k1 y318 l0_1 (l0_1.length : Int) (wrap64 (x27_1 + 1)) t308) = some (r1, r2, r3) := by first | (rw [hy318]; with_reducible exact H) | (have H2_ := (Option.bind_some _ _).symm.trans H; rw [hy318]; with_reducible exact H2_) | (have H2_ := (Option.bind_some _ _).symm.trans H; with_reducible exact H2_) | with_reducible exact H | (rw [hy318]; exact H) | exact H
         have Ny318 := Aq.mk hy318
         clear hy318
         have H' := Aq.mk H
         clear H
         have p317 : 0 ≤ (x27_1 : Int) := of_decide_eq_true (by first | (with_reducible assumption) | assumption)
         have q317 : x27_1 < (l0_1.length : Int) := of_decide_eq_true (by first | (with_reducible assumption) | assumption)
         obtain ⟨ad317, e317, hx317_0⟩ := Kd.at_int (Kd.V_reads' HO_25.out).2.2 x27_1 p317 q317
         cases e317
         replace p317 := eq_true p317
         replace q317 := eq_true q317
         have hnb29 := NB309_306.out
         have hnc29 := NB306_309.out
         have hnb30 := NB309_307.out
         have hnc30 := NB307_309.out
         have hcz31_0 : wr.cell? ⟨gb309, 0, none⟩ = some (.int .i64 t308) := (kQC BK309.out 0).trans rfl
         have hfz31_0 := kQF BK309.out 0
         go_wp2_with (first | ((with_reducible refine gate_builtin (b := .append) (xs := #[.tmp 32, .tmp 39]) rfl ?_); at_builtin; refine Kd.R_append (Kd.int .i64) (w0 := w) w.heap.size rfl (.tmp 32) (.tmp 39) 22 2 (.int .i64 0) 8 rfl Try.underlying22 info2 rfl (by decide) (by omega) u6 x6_1 (Go.bits .or .i64 (rd l0_1 x27_1) (ji27)) [.int .i64 (Go.bits .or .i64 (rd l0_1 x27_1) (ji27))] (fun k_ => (w.heap.size ≤ k_) ∧ k_ ≠ gb309) (fun _ => False) rfl rfl ?aP (fun _ hk => hk.elim) ?aF ?aO ?aB ?aS ?aL ?_; (case aP => exact rfl); (case aB => exact (by repeat (first | (with_reducible first | exact HB.out | apply bQA | apply bQN | apply bQ1 | refine bQS ?_ GE306.out | refine bQS ?_ GE307.out | refine bQS ?_ GE309.out) | exact HB.out))); (case aF => exact (fun k_ hk => ⟨(Nat.le_trans (bQZ (by repeat (first | (with_reducible first | exact HB.out | apply bQA | apply bQN | apply bQ1 | refine bQS ?_ GE306.out | refine bQS ?_ GE307.out | refine bQS ?_ GE309.out) | exact HB.out))) hk), Kd.freshB (g := gb309) (o := .cells #[.int .i64 t308] 2 (0, 0)) (by (with_reducible repeat (first | refine kQN ?_ _ | refine kQD ?_ | refine kQA ?_ _)); exact BK309.out) k_ hk⟩)); (case aO => exact (by (with_reducible repeat (first | apply Kd.RqA | apply Kd.RqN | apply Kd.RqD)); exact HO_6.out)); (case aS => exact (bQZ (by repeat (first | (with_reducible first | exact HB.out | apply bQA | apply bQN | apply bQ1 | refine bQS ?_ GE306.out | refine bQS ?_ GE307.out | refine bQS ?_ GE309.out) | exact HB.out)))); (case aL => have := LMc28.out; omega); intro v319 w32 ho hb hg hat; rw [← Ny318.out] at ho; have n0_ := Aq.mk (Kd.V_afterv (ok := (fun k_ => (P0_1_ k_ ∨ w.heap.size ≤ k_) ∧ k_ ≠ gb306 ∧ k_ ≠ gb307 ∧ k_ ≠ gb309)) (by (with_reducible repeat (first | apply Kd.V_alloc | apply Kd.V_drewN | apply Kd.V_drew)); exact Kd.V_mono HO_25.out (fun _ hk => ⟨⟨hk.1, ⟨hk.2.2.1, ⟨hk.2.2.2.1, hk.2.2.2.2⟩⟩⟩, hk.2.1⟩)) hg hat); have n1_ := Aq.mk (Kd.V_afterv (ok := (fun k_ => (P0_1_ k_ ∨ w.heap.size ≤ k_) ∧ k_ ≠ gb306 ∧ k_ ≠ gb307 ∧ k_ ≠ gb309)) (by (with_reducible repeat (first | apply Kd.V_alloc | apply Kd.V_drewN | apply Kd.V_drew)); exact Kd.V_mono HO_307001.out (fun _ hk => ⟨⟨hk.1, ⟨hk.2.2.1, ⟨hk.2.2.2.1, hk.2.2.2.2⟩⟩⟩, hk.2.1⟩)) hg hat); have n2_ := Aq.mk (blk_grown (g := gb306) (o := .cells #[.int .i64 a0_0, .slice (some ad317) l0_1.length c0_1] 26 (0, 0)) (by (with_reducible repeat (first | refine kQN ?_ _ | refine kQD ?_ | refine kQA ?_ _)); exact BK306.out) hg (Kd.R_ne HO_6.out BK306.out (by decide))); have n3_ := Aq.mk (blk_grown (g := gb307) (o := .cells #[.int .i64 0, .slice none 0 0] 26 (0, 0)) (by (with_reducible repeat (first | refine kQN ?_ _ | refine kQD ?_ | refine kQA ?_ _)); exact BK307.out) hg (Kd.R_ne HO_6.out BK307.out (by decide))); have n4_ := Aq.mk (blk_grown (g := gb309) (o := .cells #[.int .i64 t308] 2 (0, 0)) (by (with_reducible repeat (first | refine kQN ?_ _ | refine kQD ?_ | refine kQA ?_ _)); exact BK309.out) hg (Kd.R_away HO_6.out (fun _ hk => hk.2))); have n5_ := Aq.mk (hb); have n6_ := Aq.mk (ho); clear HO_25; clear HO_307001; clear BK306; clear BK307; clear BK309; clear HB; clear HO_6; have HO_25 := n0_; have HO_307001 := n1_; have BK306 := n2_; have BK307 := n3_; have BK309 := n4_; have HB := n5_; have HO320 := n6_; clear n0_ n1_ n2_ n3_ n4_ n5_ n6_; clear ho hb hg hat))
         go_roundg k1
         case measure => have := HK1.out; omega
         case rel => exact ⟨(y318), (wrap64 (x27_1 + 1)), (by first | rfl | (simp; done) | (simp [*]; done)), H', ⟨by have := HK1.out; omega⟩, ⟨by (with_reducible repeat (first | apply Kd.RqA | apply Kd.RqN | apply Kd.RqD)); exact HO320.out⟩, ⟨by (with_reducible repeat (first | apply Kd.V_alloc | apply Kd.V_drewN | apply Kd.V_drew)); exact Kd.V_mono HO_25.out (fun _ hk => ⟨hk.1.1, ⟨hk.2, ⟨hk.1.2.1, ⟨hk.1.2.2.1, hk.1.2.2.2⟩⟩⟩⟩)⟩, ⟨by (with_reducible repeat (first | apply Kd.V_alloc | apply Kd.V_drewN | apply Kd.V_drew)); exact Kd.V_mono HO_307001.out (fun _ hk => ⟨hk.1.1, ⟨hk.2, ⟨hk.1.2.1, ⟨hk.1.2.2.1, hk.1.2.2.2⟩⟩⟩⟩)⟩, ⟨by (with_reducible repeat (first | refine kQN ?_ _ | refine kQD ?_ | refine kQA ?_ _)); exact BK306.out⟩, ⟨by (with_reducible repeat (first | refine kQN ?_ _ | refine kQD ?_ | refine kQA ?_ _)); exact BK307.out⟩, ⟨by (with_reducible repeat (first | refine kQN ?_ _ | refine kQD ?_ | refine kQA ?_ _)); exact BK309.out⟩, ⟨by repeat (first | (with_reducible first | exact HB.out | apply bQA | apply bQN | apply bQ1 | refine bQS ?_ GE306.out | refine bQS ?_ GE307.out | refine bQS ?_ GE309.out) | exact HB.out)⟩⟩
        ·rw [if_neg c28] at H
         exact absurd H (by simp)
       ·rw [if_neg c26] at H
        exact absurd H (by simp)
      ·rw [if_neg c24] at H
       exact absurd H (by simp)
     ·rw [if_neg c23] at H
      exact absurd H (by simp)
    ·rw [if_neg c22] at H
     have c22b0 : decide (x27_1 < (l0_1.length : Int)) = false := decide_eq_false c22
     clear c22
     replace H := Option.bind_eq_some_iff.mp H
     obtain ⟨t321, A330, H⟩ := H
     replace H : (impl_InverseMatrix.l1 k1 t321 (t321.length : Int) 0 t308 t308 ([] : List Int)) = some (r1, r2, r3) := H
     have A33 := Aq.mk A330
     clear A330
     have H' := Aq.mk H
     clear H
     obtain ⟨Ao34, co34, eo34⟩ := Kd.R_slice HO_6.out
     subst eo34
     go_wp2_with (first | ((with_reducible refine gQc (f := 66) rfl ?_); refine goesL_ (some 43) rfl rfl Try.func66 (by kernel_rfl) rfl #[.slice Ao34 x6_1.length co34] rfl (by (try simp only [List.map_toArray, List.map_cons, List.map_nil]); first | done | rfl | (simp only [List.length_drop, List.length_take]; rfl)) ?_; (with_reducible refine (impl_echelon.calls k1 _ _ x6_1 t321 _ ?side1 ?side2 A33.out).mono ?_); (case side1 => repeat (first | exact (Kd.R_reads' HO_6.out).2.2 | (with_reducible refine Kd.CqA ?_ _) | (with_reducible refine Kd.CqN ?_ _) | (with_reducible refine Kd.CqD ?_))); (case side2 => exact (Kd.R_reads' HO_6.out).2.1); rintro e w35 ⟨v322, rfl, ho0, hb⟩; refine ⟨_, rfl, ?_⟩; have n0_ := Aq.mk (Kd.R_elder' (by (with_reducible repeat (first | apply Kd.RqA | apply Kd.RqN | apply Kd.RqD)); exact HO_6.out) (Kd.R_base ho0) hb); have n1_ := Aq.mk (Kd.V_elder' (by (with_reducible repeat (first | apply Kd.V_alloc | apply Kd.V_drewN | apply Kd.V_drew)); exact HO_25.out) (Kd.R_base ho0) hb); have n2_ := Aq.mk (Kd.V_elder' (by (with_reducible repeat (first | apply Kd.V_alloc | apply Kd.V_drewN | apply Kd.V_drew)); exact HO_307001.out) (Kd.R_base ho0) hb); have n3_ := Aq.mk (Kd.R_lower (Kd.R_newB (Kd.R_new' (Kd.R_newM (M := fun k_ => (w.heap.size ≤ k_)) ho0 (bQZ (by repeat (first | (with_reducible first | exact HB.out | apply bQA | apply bQN | apply bQ1 | refine bQS ?_ GE306.out | refine bQS ?_ GE307.out | refine bQS ?_ GE309.out) | exact HB.out))) (fun k_ h_ => h_)) (Kd.R_lt (by (with_reducible repeat (first | apply Kd.RqA | apply Kd.RqN | apply Kd.RqD)); exact HO_6.out))) (g := gb309) (o := .cells #[.int .i64 t308] 2 (0, 0)) (by (with_reducible repeat (first | refine kQN ?_ _ | refine kQD ?_ | refine kQA ?_ _)); exact BK309.out)) (bQZ (by repeat (first | (with_reducible first | exact HB.out | apply bQA | apply bQN | apply bQ1 | refine bQS ?_ GE306.out | refine bQS ?_ GE307.out | refine bQS ?_ GE309.out) | exact HB.out)))); have n4_ := Aq.mk (kQB (g := gb306) (o := .cells #[.int .i64 a0_0, .slice A0_1 l0_1.length c0_1] 26 (0, 0)) (by (with_reducible repeat (first | refine kQN ?_ _ | refine kQD ?_ | refine kQA ?_ _)); exact BK306.out) hb); have n5_ := Aq.mk (kQB (g := gb307) (o := .cells #[.int .i64 0, .slice none 0 0] 26 (0, 0)) (by (with_reducible repeat (first | refine kQN ?_ _ | refine kQD ?_ | refine kQA ?_ _)); exact BK307.out) hb); have n6_ := Aq.mk (kQB (g := gb309) (o := .cells #[.int .i64 t308] 2 (0, 0)) (by (with_reducible repeat (first | refine kQN ?_ _ | refine kQD ?_ | refine kQA ?_ _)); exact BK309.out) hb); have n7_ := Aq.mk (bQT (by repeat (first | (with_reducible first | exact HB.out | apply bQA | apply bQN | apply bQ1 | refine bQS ?_ GE306.out | refine bQS ?_ GE307.out | refine bQS ?_ GE309.out) | exact HB.out)) hb); clear HO_6; clear HO_25; clear HO_307001; clear BK306; clear BK307; clear BK309; clear HB; have HO_6 := n0_; have HO_25 := n1_; have HO_307001 := n2_; have HO323 := n3_; have BK306 := n4_; have BK307 := n5_; have BK309 := n6_; have HB := n7_; clear n0_ n1_ n2_ n3_ n4_ n5_ n6_ n7_; (try clear hb); (try clear hb2); (try clear hk); (try clear hi); (try clear ho0); have hnb36 := NB309_306.out; have hnc36 := NB306_309.out; have hnb37 := NB309_307.out; have hnc37 := NB307_309.out; have hcz38_0 : w35.cell? ⟨gb309, 0, none⟩ = some (.int .i64 t308) := (kQC BK309.out 0).trans rfl; have hfz38_0 := kQF BK309.out 0) | ((with_reducible refine gQd (N := 9) rfl ?_); refine xQe ?hg (N := 9) ?hd (cs := #[.int .i64 0, .slice none 0 0]) (t := 26) ?hr ?_; (case hd => rfl); (case hg => rfl); (case hr => first | (go_simp; done) | (go_simp; rfl)); intro gb324 hg w39 hbox hb; have n0_ := Aq.mk (Kd.R_below (by (with_reducible repeat (first | apply Kd.RqA | apply Kd.RqN | apply Kd.RqD)); exact HO_6.out) hb); have n1_ := Aq.mk (Kd.V_below (Kd.V_elderB (by (with_reducible repeat (first | apply Kd.V_alloc | apply Kd.V_drewN | apply Kd.V_drew)); exact HO_25.out) gb324 (Nat.le_of_eq hg.symm)) hb); have n2_ := Aq.mk (Kd.V_below (Kd.V_elderB (by (with_reducible repeat (first | apply Kd.V_alloc | apply Kd.V_drewN | apply Kd.V_drew)); exact HO_307001.out) gb324 (Nat.le_of_eq hg.symm)) hb); have n3_ := Aq.mk (Kd.R_below (by (with_reducible repeat (first | apply Kd.RqA | apply Kd.RqN | apply Kd.RqD)); exact HO323.out) hb); have n4_ := Aq.mk (kQB (g := gb306) (o := .cells #[.int .i64 a0_0, .slice A0_1 l0_1.length c0_1] 26 (0, 0)) (by (with_reducible repeat (first | refine kQN ?_ _ | refine kQD ?_ | refine kQA ?_ _)); exact BK306.out) hb); have n5_ := Aq.mk (kQB (g := gb307) (o := .cells #[.int .i64 0, .slice none 0 0] 26 (0, 0)) (by (with_reducible repeat (first | refine kQN ?_ _ | refine kQD ?_ | refine kQA ?_ _)); exact BK307.out) hb); have n6_ := Aq.mk (kQB (g := gb309) (o := .cells #[.int .i64 t308] 2 (0, 0)) (by (with_reducible repeat (first | refine kQN ?_ _ | refine kQD ?_ | refine kQA ?_ _)); exact BK309.out) hb); have n7_ := Aq.mk (bQT (by repeat (first | (with_reducible first | exact HB.out | apply bQA | apply bQN | apply bQ1 | refine bQS ?_ GE306.out | refine bQS ?_ GE307.out | refine bQS ?_ GE309.out) | exact HB.out)) hb); have n8_ := Aq.mk (hbox); have n9_ := Aq.mk ((by rw [hg]; exact (bQZ (by repeat (first | (with_reducible first | exact HB.out | apply bQA | apply bQN | apply bQ1 | refine bQS ?_ GE306.out | refine bQS ?_ GE307.out | refine bQS ?_ GE309.out) | exact HB.out))) : w.heap.size ≤ gb324)); have n10_ := Aq.mk ((by rw [hg]; exact (bQZ (by repeat (first | (with_reducible first | exact HB.out | apply bQA | apply bQN | apply bQ1 | refine bQS ?_ GE306.out | refine bQS ?_ GE307.out | refine bQS ?_ GE309.out) | exact HB.out))) : w.heap.size ≤ gb324)); have n11_ := Aq.mk ((by rw [hg]; exact Nat.ne_of_lt (blk_lt (g := gb306) (o := .cells #[.int .i64 a0_0, .slice A0_1 l0_1.length c0_1] 26 (0, 0)) (by (with_reducible repeat (first | refine kQN ?_ _ | refine kQD ?_ | refine kQA ?_ _)); exact BK306.out)) : gb306 ≠ gb324)); have n12_ := Aq.mk ((by rw [hg]; exact Nat.ne_of_gt (blk_lt (g := gb306) (o := .cells #[.int .i64 a0_0, .slice A0_1 l0_1.length c0_1] 26 (0, 0)) (by (with_reducible repeat (first | refine kQN ?_ _ | refine kQD ?_ | refine kQA ?_ _)); exact BK306.out)) : gb324 ≠ gb306)); have n13_ := Aq.mk ((by rw [hg]; exact Nat.ne_of_lt (blk_lt (g := gb307) (o := .cells #[.int .i64 0, .slice none 0 0] 26 (0, 0)) (by (with_reducible repeat (first | refine kQN ?_ _ | refine kQD ?_ | refine kQA ?_ _)); exact BK307.out)) : gb307 ≠ gb324)); have n14_ := Aq.mk ((by rw [hg]; exact Nat.ne_of_gt (blk_lt (g := gb307) (o := .cells #[.int .i64 0, .slice none 0 0] 26 (0, 0)) (by (with_reducible repeat (first | refine kQN ?_ _ | refine kQD ?_ | refine kQA ?_ _)); exact BK307.out)) : gb324 ≠ gb307)); have n15_ := Aq.mk ((by rw [hg]; exact Nat.ne_of_lt (blk_lt (g := gb309) (o := .cells #[.int .i64 t308] 2 (0, 0)) (by (with_reducible repeat (first | refine kQN ?_ _ | refine kQD ?_ | refine kQA ?_ _)); exact BK309.out)) : gb309 ≠ gb324)); have n16_ := Aq.mk ((by rw [hg]; exact Nat.ne_of_gt (blk_lt (g := gb309) (o := .cells #[.int .i64 t308] 2 (0, 0)) (by (with_reducible repeat (first | refine kQN ?_ _ | refine kQD ?_ | refine kQA ?_ _)); exact BK309.out)) : gb324 ≠ gb309)); clear HO_6; clear HO_25; clear HO_307001; clear HO323; clear BK306; clear BK307; clear BK309; clear HB; have HO_6 := n0_; have HO_25 := n1_; have HO_307001 := n2_; have HO323 := n3_; have BK306 := n4_; have BK307 := n5_; have BK309 := n6_; have HB := n7_; have BK324 := n8_; have GW324 := n9_; have GE324 := n10_; have NB306_324 := n11_; have NB324_306 := n12_; have NB307_324 := n13_; have NB324_307 := n14_; have NB309_324 := n15_; have NB324_309 := n16_; clear n0_ n1_ n2_ n3_ n4_ n5_ n6_ n7_ n8_ n9_ n10_ n11_ n12_ n13_ n14_ n15_ n16_; clear hb hbox hg; have hnb40 := NB324_306.out; have hnc40 := NB306_324.out; have hnb41 := NB324_307.out; have hnc41 := NB307_324.out; have hnb42 := NB324_309.out; have hnc42 := NB309_324.out; have hcz43_0 : w39.cell? ⟨gb324, 0, none⟩ = some (.int .i64 0) := (kQC BK324.out 0).trans rfl; have hcz43_1 : w39.cell? ⟨gb324, 1, none⟩ = some (.slice none 0 0) := (kQC BK324.out 1).trans rfl; have hfz43_0 := kQF BK324.out 0; have hfz43_1 := kQF BK324.out 1; obtain ⟨Ao44, co44, eo44⟩ := Kd.R_slice HO323.out; subst eo44))
     go_loopg [48] k1 (fun kq v48 w' => ∃ (x48_2 : Int) (x308000_2 : Int) (x325001_2 : List Int) (u325001 : Value), v48 = .int .i64 x48_2 ∧ Aq (impl_InverseMatrix.l1 kq t321 (t321.length : Int) x48_2 t308 t308 x325001_2 = some (r1, r2, r3)) ∧ Aq (kq ≤ k1) ∧ Aq (Kd.R (Kd.int .i64) 2 w' w.heap.size (fun k_ => (w.heap.size ≤ k_) ∧ some k_ ≠ (u325001 : Value).ownBlock ∧ k_ ≠ gb309) (.slice Ao44 t321.length co44) t321) ∧ Aq (Kd.V (Kd.int .i64) 2 w' w.heap.size (fun k_ => (P0_1_ k_ ∨ w.heap.size ≤ k_) ∧ some k_ ≠ ((.slice Ao44 t321.length co44) : Value).ownBlock ∧ some k_ ≠ (u325001 : Value).ownBlock ∧ k_ ≠ gb306 ∧ k_ ≠ gb307 ∧ k_ ≠ gb309 ∧ k_ ≠ gb324) (.slice A0_1 l0_1.length c0_1) l0_1) ∧ Aq (Kd.R (Kd.int .i64) 2 w' w.heap.size (fun k_ => (w.heap.size ≤ k_) ∧ some k_ ≠ ((.slice Ao44 t321.length co44) : Value).ownBlock ∧ k_ ≠ gb309) u325001 x325001_2) ∧ Aq (w'.heap[gb306]? = some (.cells #[.int .i64 a0_0, (.slice A0_1 l0_1.length c0_1)] 26 (0, 0))) ∧ Aq (w'.heap[gb307]? = some (.cells #[.int .i64 x308000_2, (.slice none 0 0)] 26 (0, 0))) ∧ Aq (w'.heap[gb309]? = some (.cells #[.int .i64 t308] 2 (0, 0))) ∧ Aq (w'.heap[gb324]? = some (.cells #[.int .i64 t308, u325001] 26 (0, 0))) ∧ Aq (Below w.heap.size w w'))
     case atStart => exact ⟨(0), (0), (([] : List Int)), (.slice none 0 0), (by first | rfl | (simp; done) | (simp [*]; done)), H', ⟨Nat.le_refl _⟩, ⟨by (with_reducible repeat (first | apply Kd.RqA | apply Kd.RqN | apply Kd.RqD)); exact Kd.R_mono (Kd.R_far (p := ⟨gb324, 1, none⟩) (Kd.R_far (p := ⟨gb324, 0, none⟩) (Kd.R_types HO323.out BK324.out (by decide)) (fun _ hk => hk.2) (.int .i64 t308)) (fun _ hk => hk.2) (.slice none 0 0)) (fun _ hk => ⟨hk.1.1.1.1, ⟨(by simp [Value.ownBlock]), hk.1.2⟩⟩)⟩, ⟨by (with_reducible repeat (first | apply Kd.V_alloc | apply Kd.V_drewN | apply Kd.V_drew)); exact Kd.V_mono (Kd.V_far (p := ⟨gb324, 1, none⟩) (Kd.V_far (p := ⟨gb324, 0, none⟩) (Kd.V_mono HO_307001.out (fun k_ hk => (⟨hk, hk.2⟩ : _ ∧ k_ ≠ gb324))) (fun _ hk => hk.2) (.int .i64 t308)) (fun _ hk => hk.2) (.slice none 0 0)) (fun _ hk => ⟨hk.1.1.1.1, ⟨hk.1.1.2, ⟨(by simp [Value.ownBlock]), ⟨hk.1.1.1.2.2.1, ⟨hk.1.1.1.2.2.2.1, ⟨hk.1.1.1.2.2.2.2, hk.1.2⟩⟩⟩⟩⟩⟩)⟩, ⟨by first | exact Kd.R_nil _ _ _ _ _ | exact Kd.N_nil _ _ _ _ _ | exact Kd.V_nil _ _ _ _ _ | exact Kd.Q_nil _ _ _ _ _ | exact Kd.S_nil _ _ _ _ _⟩, ⟨by (with_reducible repeat (first | refine kQN ?_ _ | refine kQD ?_ | refine kQA ?_ _)); refine kQR ?_ NB306_324.out _; (with_reducible repeat (first | refine kQN ?_ _ | refine kQD ?_ | refine kQA ?_ _)); refine kQR ?_ NB306_324.out _; (with_reducible repeat (first | refine kQN ?_ _ | refine kQD ?_ | refine kQA ?_ _)); exact BK306.out⟩, ⟨by (with_reducible repeat (first | refine kQN ?_ _ | refine kQD ?_ | refine kQA ?_ _)); refine kQR ?_ NB307_324.out _; (with_reducible repeat (first | refine kQN ?_ _ | refine kQD ?_ | refine kQA ?_ _)); refine kQR ?_ NB307_324.out _; (with_reducible repeat (first | refine kQN ?_ _ | refine kQD ?_ | refine kQA ?_ _)); exact BK307.out⟩, ⟨by (with_reducible repeat (first | refine kQN ?_ _ | refine kQD ?_ | refine kQA ?_ _)); refine kQR ?_ NB309_324.out _; (with_reducible repeat (first | refine kQN ?_ _ | refine kQD ?_ | refine kQA ?_ _)); refine kQR ?_ NB309_324.out _; (with_reducible repeat (first | refine kQN ?_ _ | refine kQD ?_ | refine kQA ?_ _)); exact BK309.out⟩, ⟨by (with_reducible repeat (first | refine kQN ?_ _ | refine kQD ?_ | refine kQA ?_ _)); refine kQP (cs := #[.int .i64 t308, .slice none 0 0]) ?_ 1 _ rfl; (with_reducible repeat (first | refine kQN ?_ _ | refine kQD ?_ | refine kQA ?_ _)); refine kQP (cs := #[.int .i64 0, .slice none 0 0]) ?_ 0 _ rfl; (with_reducible repeat (first | refine kQN ?_ _ | refine kQD ?_ | refine kQA ?_ _)); exact BK324.out⟩, ⟨by repeat (first | (with_reducible first | exact HB.out | apply bQA | apply bQN | apply bQ1 | refine bQS ?_ GE306.out | refine bQS ?_ GE307.out | refine bQS ?_ GE309.out | refine bQS ?_ GE324.out) | exact HB.out)⟩⟩
     case round =>
      clear H'
      try clear c1
      try clear c2
      try clear p2
      try clear c3
      try clear p3
      try clear q3
      try clear hx3
      try clear c4
      try clear c4b0
      try clear c4b1
      try clear c6
      try clear p6
      try clear c7
      try clear c10
      try clear c11
      try clear c22
      try clear c22b0
      try clear c23
      try clear c23b0
      try clear c24
      try clear c24b0
      try clear c26
      try clear c26b0
      try clear c26b1
      try clear c28
      try clear c29
      try clear c30
      try clear p31
      try clear q31
      try clear hx31
      try clear c36
      try clear c37
      try clear c40
      try clear c41
      try clear c42
      try clear hcz12_0
      try clear hcz14_0
      try clear hcz14_1
      try clear hcz21_0
      try clear hcz21_1
      try clear hcz31_0
      try clear hcz38_0
      try clear hcz43_0
      try clear hcz43_1
      try clear hcz8_0
      try clear hcz8_1
      try clear hfz12_0
      try clear hfz14_0
      try clear hfz14_1
      try clear hfz21_0
      try clear hfz21_1
      try clear hfz31_0
      try clear hfz38_0
      try clear hfz43_0
      try clear hfz43_1
      try clear hfz8_0
      try clear hfz8_1
      try clear hx317_0
      try clear p2
      try clear p317
      try clear q317
      obtain ⟨x48_2, x308000_2, x325001_2, u325001, rfl, HA, HK2, HO_46, HO_307001, HO_325001, BK306, BK307, BK309, BK324, HB⟩ := hrel
      cases gk with
      | zero => exact absurd HA.out (by simp [impl_InverseMatrix.l1])
      | succ k2 =>
       have H := HA.out
       clear HA
       simp only [impl_InverseMatrix.l1] at H
       by_cases c45 : x48_2 < (t321.length : Int)
       ·rw [if_pos c45] at H
        have c45b0 : decide (x48_2 < (t321.length : Int)) = true := decide_eq_true c45
        clear c45
        by_cases c46 : 0 ≤ x48_2
        ·rw [if_pos c46] at H
         have c46b0 : decide (0 ≤ x48_2) = true := decide_eq_true c46
         clear c46
         by_cases c47 : x48_2 < (t321.length : Int)
         ·rw [if_pos c47] at H
          have c47b0 : decide (x48_2 < (t321.length : Int)) = true := decide_eq_true c47
          clear c47
          by_cases c48 : 0 ≤ t308
          ·rw [if_pos c48] at H
           have c48b0 := eq_true c48
           have c48b1 : decide (0 ≤ t308) = true := decide_eq_true c48
           clear c48
           obtain ⟨ji49, hji49⟩ : ∃ j_ : Int, (shl .i64 1 t308) = j_ := ⟨_, rfl⟩
           replace H : (if (Go.bits .and .i64 (rd t321 x48_2) (wrap64 ((ji49) - 1))) = (shl .i64 1 x48_2) then (if x325001_2.length < 17592186044416 then (impl_InverseMatrix.l1 k2 t321 (t321.length : Int) (wrap64 (x48_2 + 1)) t308 t308 (x325001_2 ++ [shr .i64 (rd t321 x48_2) t308])) else (none)) else (some (0, ([] : List Int), 4))) = some (r1, r2, r3) := by first | (rw [hji49] at H; exact H) | (simp only [hji49] at H ⊢; exact H)
           have hji49_ : (IntKind.i64.wrap (1 * 2 ^ min t308.toNat 64)) = ji49 := hji49
           have hji49z : t308 ≤ 64 → (IntKind.i64.wrap (1 * 2 ^ t308.toNat)) = ji49 := shl_small hji49
           have hji49u : (IntKind.i64.wrap (2 ^ min t308.toNat 64)) = ji49 := by have h_ := hji49_; rw [Int.one_mul] at h_; exact h_
           have hji49v : t308 ≤ 64 → (IntKind.i64.wrap (2 ^ t308.toNat)) = ji49 := fun hle_ => by have h_ := hji49z hle_; rw [Int.one_mul] at h_; exact h_
           have hji49y : (wrap64 (1 * 2 ^ min t308.toNat 64)) = ji49 := (i64_w _).symm.trans hji49_
           have hji49x : t308 ≤ 64 → (wrap64 (1 * 2 ^ t308.toNat)) = ji49 := fun h_ => (i64_w _).symm.trans (hji49z h_)
           have c50b0 := eq_true (of_decide_eq_true (by first | (with_reducible assumption) | assumption) : 0 ≤ x48_2)
           obtain ⟨ji51, hji51⟩ : ∃ j_ : Int, (shl .i64 1 x48_2) = j_ := ⟨_, rfl⟩
           replace H : (if (Go.bits .and .i64 (rd t321 x48_2) (wrap64 ((ji49) - 1))) = (ji51) then (if x325001_2.length < 17592186044416 then (impl_InverseMatrix.l1 k2 t321 (t321.length : Int) (wrap64 (x48_2 + 1)) t308 t308 (x325001_2 ++ [shr .i64 (rd t321 x48_2) t308])) else (none)) else (some (0, ([] : List Int), 4))) = some (r1, r2, r3) := by first | (rw [hji51] at H; exact H) | (simp only [hji51] at H ⊢; exact H)
           have hji51_ : (IntKind.i64.wrap (1 * 2 ^ min x48_2.toNat 64)) = ji51 := hji51
           have hji51z : x48_2 ≤ 64 → (IntKind.i64.wrap (1 * 2 ^ x48_2.toNat)) = ji51 := shl_small hji51
           have hji51u : (IntKind.i64.wrap (2 ^ min x48_2.toNat 64)) = ji51 := by have h_ := hji51_; rw [Int.one_mul] at h_; exact h_
           have hji51v : x48_2 ≤ 64 → (IntKind.i64.wrap (2 ^ x48_2.toNat)) = ji51 := fun hle_ => by have h_ := hji51z hle_; rw [Int.one_mul] at h_; exact h_
           have hji51y : (wrap64 (1 * 2 ^ min x48_2.toNat 64)) = ji51 := (i64_w _).symm.trans hji51_
           have hji51x : x48_2 ≤ 64 → (wrap64 (1 * 2 ^ x48_2.toNat)) = ji51 := fun h_ => (i64_w _).symm.trans (hji51z h_)
           by_cases c52 : (Go.bits .and .i64 (rd t321 x48_2) (wrap64 ((ji49) - 1))) = (ji51)
           ·rw [if_pos c52] at H
            have c52b0 : ((Go.bits .and .i64 (rd t321 x48_2) (wrap64 ((ji49) - 1))) == (ji51)) = true := beq_iff_eq.mpr c52
            have c52b1 : ((Go.bits .and .i64 (rd t321 x48_2) (wrap64 ((ji49) - 1))) != (ji51)) = false := bne_eq_false_iff_eq.mpr c52
            clear c52
            have c53b0 := eq_true (of_decide_eq_true (by first | (with_reducible assumption) | assumption) : 0 ≤ t308)
            obtain ⟨ji54, hji54⟩ : ∃ j_ : Int, (shr .i64 (rd t321 x48_2) t308) = j_ := ⟨_, rfl⟩
            replace H : (if x325001_2.length < 17592186044416 then (impl_InverseMatrix.l1 k2 t321 (t321.length : Int) (wrap64 (x48_2 + 1)) t308 t308 (x325001_2 ++ [ji54])) else (none)) = some (r1, r2, r3) := by first | (rw [hji54] at H; exact H) | (simp only [hji54] at H ⊢; exact H)
            have hji54_ : ((rd t321 x48_2) / 2 ^ min t308.toNat 64) = ji54 := hji54
            have hji54z : t308 ≤ 64 → ((rd t321 x48_2) / 2 ^ t308.toNat) = ji54 := shr_small hji54
            by_cases c55 : x325001_2.length < 17592186044416
            ·rw [if_pos c55] at H
             have LMc55 := Aq.mk c55
             clear c55
             obtain ⟨y326, hy326⟩ : ∃ y_ : List Int, y_ = (x325001_2 ++ [ji54]) := ⟨_, rfl⟩
             replace H : (impl_InverseMatrix.l1 k2 t321 (t321.length : Int) (wrap64 (x48_2 + 1)) t308 t308 y326) = some (r1, r2, r3) := by first | (rw [hy326]; with_reducible exact H) | (have H2_ := (Option.bind_some _ _).symm.trans H; rw [hy326]; with_reducible exact H2_) | (have H2_ := (Option.bind_some _ _).symm.trans H; with_reducible exact H2_) | with_reducible exact H | (rw [hy326]; exact H) | exact H
             have Ny326 := Aq.mk hy326
             clear hy326
             have H' := Aq.mk H
             clear H
             have p325 : 0 ≤ (x48_2 : Int) := of_decide_eq_true (by first | (with_reducible assumption) | assumption)
             have q325 : x48_2 < (t321.length : Int) := of_decide_eq_true (by first | (with_reducible assumption) | assumption)
             obtain ⟨ad325, e325, hx325_0⟩ := Kd.at_int (Kd.R_reads' HO_46.out).2.2 x48_2 p325 q325
             cases e325
             replace p325 := eq_true p325
             replace q325 := eq_true q325
             try go_wp2
             have n0_ := Aq.mk (Kd.RqD HO_46.out)
             have n1_ := Aq.mk (Kd.V_drew HO_307001.out)
             have n2_ := Aq.mk (Kd.RqD HO_325001.out)
             have n3_ := Aq.mk (kQD BK306.out)
             have n4_ := Aq.mk (kQD BK307.out)
             have n5_ := Aq.mk (kQD BK309.out)
             have n6_ := Aq.mk (kQD BK324.out)
             have n7_ := Aq.mk (bQ1 HB.out)
             clear HO_46
             clear HO_307001
             clear HO_325001
             clear BK306
             clear BK307
             clear BK309
             clear BK324
             clear HB
             have HO_46 := n0_
             have HO_307001 := n1_
             have HO_325001 := n2_
             have BK306 := n3_
             have BK307 := n4_
             have BK309 := n5_
             have BK324 := n6_
             have HB := n7_
             clear n0_ n1_ n2_ n3_ n4_ n5_ n6_ n7_
             refine start_ (n := 8) (S := fun w' => w'.cell? ⟨gb309, 0, none⟩ = some (.int .i64 t308)) (ds := []) #[false, false, false, false, false, false, false, false] (by kernel_rfl) rfl rfl ((kQC BK309.out 0).trans rfl) (fun hHeld => ?_); refine with_tabW impl_InverseMatrix.tab16 impl_InverseMatrix.bits16 (fun HT_ HW_ => ?_)
             generalize wr.drew = w56 at HO_46 HO_307001 HO_325001 BK306 BK307 BK309 BK324 HB hHeld ⊢
             refine pure_ (i := 0) (N := some 53) (v := ?_) (a' := ?_) #[true, false, false, false, false, false, false, false] rfl rfl (any_of HT_.out (by kernel_rfl)) (fun _ _ _ h => h) (Or.inl ⟨by rfl, ?_⟩) ?_ ?_
             rotate_left
             ·intro w'
              go_simp
              with_reducible rfl
             rotate_left
             ·simp only [Act.put, qSa, qSb, qSc, i64_w, i32_w]
              rfl
             refine pure_ (i := 5) (N := some 58) (v := ?_) (a' := ?_) #[true, false, false, false, false, true, false, false] rfl rfl (any_of HT_.out (by kernel_rfl)) (fun _ _ _ h => h) (Or.inl ⟨by rfl, ?_⟩) ?_ ?_
             rotate_left
             ·intro w'
              go_simp
              with_reducible rfl
             rotate_left
             ·simp only [Act.put, qSa, qSb, qSc, i64_w, i32_w]
              rfl
             refine pure_ (i := 6) (N := some 59) (v := ?_) (a' := ?_) #[true, false, false, false, false, true, true, false] rfl rfl (any_of HT_.out (by kernel_rfl)) (fun _ _ _ h => h) (Or.inl ⟨by rfl, ?_⟩) ?_ ?_
             rotate_left
             ·intro w'
              go_simp
              with_reducible rfl
             rotate_left
             ·simp only [Act.put, qSa, qSb, qSc, i64_w, i32_w]
              rfl
             refine take_ (i := 1) (N := some 54) (v := ?_) (a' := ?_) #[true, true, false, false, false, true, true, false] rfl rfl (take_ofW HT_.out HW_.out (by kernel_rfl)) (fun _ _ _ h => h) (Or.inl ⟨by rfl, ?_⟩) hHeld ?_ ?_
             rotate_left
             ·intro w' s0
              go_simp
              with_reducible rfl
             rotate_left
             ·simp only [Act.put, qSa, qSb, qSc, i64_w, i32_w]
              rfl
             refine pure_ (i := 2) (N := some 55) (v := ?_) (a' := ?_) #[true, true, true, false, false, true, true, false] rfl rfl (any_of HT_.out (by kernel_rfl)) (fun _ _ _ h => h) (Or.inl ⟨by rfl, ?_⟩) ?_ ?_
             rotate_left
             ·intro w'
              go_simp
              with_reducible rfl
             rotate_left
             ·simp only [Act.put, qSa, qSb, qSc, i64_w, i32_w]
              rfl
             refine pure_ (i := 3) (N := some 56) (v := ?_) (a' := ?_) #[true, true, true, true, false, true, true, false] rfl rfl (any_of HT_.out (by kernel_rfl)) (fun _ _ _ h => h) (Or.inl ⟨by rfl, ?_⟩) ?_ ?_
             rotate_left
             ·intro w'
              go_simp
              with_reducible rfl
             rotate_left
             ·simp only [Act.put, qSa, qSb, qSc, i64_w, i32_w]
              rfl
             refine pure_ (i := 4) (N := some 57) (v := ?_) (a' := ?_) #[true, true, true, true, true, true, true, false] rfl rfl (any_of HT_.out (by kernel_rfl)) (fun _ _ _ h => h) (Or.inl ⟨by rfl, ?_⟩) ?_ ?_
             rotate_left
             ·intro w'
              go_simp
              with_reducible rfl
             rotate_left
             ·simp only [Act.put, qSa, qSb, qSc, i64_w, i32_w]
              rfl
             refine pure_ (i := 7) (N := some 60) (v := ?_) (a' := ?_) #[true, true, true, true, true, true, true, true] rfl rfl (any_of HT_.out (by kernel_rfl)) (fun _ _ _ h => h) (Or.inl ⟨by rfl, ?_⟩) ?_ ?_
             rotate_left
             ·intro w'
              go_simp
              with_reducible rfl
             rotate_left
             ·simp only [Act.put, qSa, qSb, qSc, i64_w, i32_w]
              rfl
             refine done_ (done_of HT_.out (by kernel_rfl)) ?_
             try go_wp2
             have n0_ := Aq.mk (Kd.RqD HO_46.out)
             have n1_ := Aq.mk (Kd.V_drew HO_307001.out)
             have n2_ := Aq.mk (Kd.RqD HO_325001.out)
             have n3_ := Aq.mk (kQD BK306.out)
             have n4_ := Aq.mk (kQD BK307.out)
             have n5_ := Aq.mk (kQD BK309.out)
             have n6_ := Aq.mk (kQD BK324.out)
             have n7_ := Aq.mk (bQ1 HB.out)
             clear HO_46
             clear HO_307001
             clear HO_325001
             clear BK306
             clear BK307
             clear BK309
             clear BK324
             clear HB
             have HO_46 := n0_
             have HO_307001 := n1_
             have HO_325001 := n2_
             have BK306 := n3_
             have BK307 := n4_
             have BK309 := n5_
             have BK324 := n6_
             have HB := n7_
             clear n0_ n1_ n2_ n3_ n4_ n5_ n6_ n7_
             refine start_ (n := 9) (S := fun w' => w'.cell? ⟨gb324, 0, none⟩ = some (.int .i64 t308) ∧ w'.cell? ⟨gb324, 1, none⟩ = some (u325001) ∧ w'.cell? ⟨gb309, 0, none⟩ = some (.int .i64 t308)) (ds := [8]) #[false, false, false, false, false, false, false, false, false] (by kernel_rfl) rfl rfl ⟨(kQC BK324.out 0).trans rfl, (kQC BK324.out 1).trans rfl, (kQC BK309.out 0).trans rfl⟩ (fun hHeld => ?_); refine with_tabW impl_InverseMatrix.tab18 impl_InverseMatrix.bits18 (fun HT_ HW_ => ?_)
             generalize w56.drew = w57 at HO_46 HO_307001 HO_325001 BK306 BK307 BK309 BK324 HB hHeld ⊢
             refine pure_ (i := 0) (N := some 62) (v := ?_) (a' := ?_) #[true, false, false, false, false, false, false, false, false] rfl rfl (any_of HT_.out (by kernel_rfl)) (fun _ _ _ h => h) (Or.inl ⟨by rfl, ?_⟩) ?_ ?_
             rotate_left
             ·intro w'
              go_simp
              with_reducible rfl
             rotate_left
             ·simp only [Act.put, qSa, qSb, qSc, i64_w, i32_w]
              rfl
             refine pure_ (i := 2) (N := some 64) (v := ?_) (a' := ?_) #[true, false, true, false, false, false, false, false, false] rfl rfl (any_of HT_.out (by kernel_rfl)) (fun _ _ _ h => h) (Or.inl ⟨by rfl, ?_⟩) ?_ ?_
             rotate_left
             ·intro w'
              go_simp
              with_reducible rfl
             rotate_left
             ·simp only [Act.put, qSa, qSb, qSc, i64_w, i32_w]
              rfl
             refine take_ (i := 1) (N := some 63) (v := ?_) (a' := ?_) #[true, true, true, false, false, false, false, false, false] rfl rfl (take_ofW HT_.out HW_.out (by kernel_rfl)) (fun _ _ _ h => h) (Or.inl ⟨by rfl, ?_⟩) hHeld ?_ ?_
             rotate_left
             ·rintro w' ⟨s0, s1, s2⟩
              go_simp
              with_reducible rfl
             rotate_left
             ·simp only [Act.put, qSa, qSb, qSc, i64_w, i32_w]
              rfl
             refine take_ (i := 3) (N := some 65) (v := ?_) (a' := ?_) #[true, true, true, true, false, false, false, false, false] rfl rfl (take_ofW HT_.out HW_.out (by kernel_rfl)) (fun _ _ _ h => h) (Or.inl ⟨by rfl, ?_⟩) hHeld ?_ ?_
             rotate_left
             ·rintro w' ⟨s0, s1, s2⟩
              go_simp
              with_reducible rfl
             rotate_left
             ·simp only [Act.put, qSa, qSb, qSc, i64_w, i32_w]
              rfl
             refine pure_ (i := 4) (N := some 66) (v := ?_) (a' := ?_) #[true, true, true, true, true, false, false, false, false] rfl rfl (any_of HT_.out (by kernel_rfl)) (fun _ _ _ h => h) (Or.inl ⟨by rfl, ?_⟩) ?_ ?_
             rotate_left
             ·intro w'
              go_simp
              with_reducible rfl
             rotate_left
             ·simp only [Act.put, qSa, qSb, qSc, i64_w, i32_w]
              rfl
             refine one_ (i := 5) (N := some 67) #[true, true, true, true, true, true, false, false, false] rfl rfl (one_of HT_.out (by kernel_rfl)) (by decide) (fun K hK => ?_)
             refine value_ (w1 := ?_) (v := ?_) (by rfl) rfl ?_ ?_
             rotate_left 2
             ·go_simp
              constructor
              ·rfl
              ·rfl
             refine hK.out _ _ ⟨(kQC (kQA BK324.out _) 0).trans rfl, (kQC (kQA BK324.out _) 1).trans rfl, (kQC (kQA BK309.out _) 0).trans rfl⟩ (fun hHeld => ?_)
             clear hK K
             refine norm_ (a' := ?_) ?_ ?_
             rotate_left
             ·show Act.put _ (some 67) _ = _
              simp only [Act.put, qSa, qSb, qSc, i64_w, i32_w]
              rfl
             refine one_ (i := 6) (N := some 68) #[true, true, true, true, true, true, true, false, false] rfl rfl (one_of HT_.out (by kernel_rfl)) (by decide) (fun K hK => ?_)
             refine Kd.R_append_step (Kd.int .i64) (w0 := w) w.heap.size (by rfl) (.tmp 63) (.tmp 67) 22 2 (.int .i64 0) 8 rfl Try.underlying22 info2 rfl (by decide) (by omega) u325001 x325001_2 ji54 [.int .i64 ji54] (fun k_ => (w.heap.size ≤ k_) ∧ some k_ ≠ (.slice (some ad325) t321.length co44 : Value).ownBlock ∧ k_ ≠ gb309) (fun _ => False) rfl rfl ?aP (fun _ hk => hk.elim) ?aF ?aO ?aB ?aS ?aL ?_
             (case aP => exact rfl)
             (case aB => exact (by repeat (first | (with_reducible first | exact HB.out | apply bQA | apply bQN | apply bQ1 | refine bQS ?_ GE306.out | refine bQS ?_ GE307.out | refine bQS ?_ GE309.out | refine bQS ?_ GE324.out) | exact HB.out)))
             (case aF => exact (fun k_ hk => ⟨(Nat.le_trans (bQZ (by repeat (first | (with_reducible first | exact HB.out | apply bQA | apply bQN | apply bQ1 | refine bQS ?_ GE306.out | refine bQS ?_ GE307.out | refine bQS ?_ GE309.out | refine bQS ?_ GE324.out) | exact HB.out))) hk), Kd.fresh' (Kd.R_lt (by (with_reducible repeat (first | apply Kd.RqA | apply Kd.RqN | apply Kd.RqD)); exact HO_46.out)) k_ hk, Kd.freshB (g := gb309) (o := .cells #[.int .i64 t308] 2 (0, 0)) (by (with_reducible repeat (first | refine kQN ?_ _ | refine kQD ?_ | refine kQA ?_ _)); exact BK309.out) k_ hk⟩))
             (case aO => exact (by (with_reducible repeat (first | apply Kd.RqA | apply Kd.RqN | apply Kd.RqD)); exact HO_325001.out))
             (case aS => exact (bQZ (by repeat (first | (with_reducible first | exact HB.out | apply bQA | apply bQN | apply bQ1 | refine bQS ?_ GE306.out | refine bQS ?_ GE307.out | refine bQS ?_ GE309.out | refine bQS ?_ GE324.out) | exact HB.out))))
             (case aL => have := LMc55.out; omega)
             intro v327 w58 ho hb hg hat
             rw [← Ny326.out] at ho
             have n0_ := Aq.mk (Kd.R_after (ok := (fun k_ => (w.heap.size ≤ k_) ∧ k_ ≠ gb309)) (by (with_reducible repeat (first | apply Kd.RqA | apply Kd.RqN | apply Kd.RqD)); exact Kd.R_mono HO_46.out (fun _ hk => ⟨⟨hk.1, hk.2.2⟩, hk.2.1⟩)) hg hat)
             have n1_ := Aq.mk (Kd.V_afterv (ok := (fun k_ => (P0_1_ k_ ∨ w.heap.size ≤ k_) ∧ some k_ ≠ (.slice (some ad325) t321.length co44 : Value).ownBlock ∧ k_ ≠ gb306 ∧ k_ ≠ gb307 ∧ k_ ≠ gb309 ∧ k_ ≠ gb324)) (by (with_reducible repeat (first | apply Kd.V_alloc | apply Kd.V_drewN | apply Kd.V_drew)); exact Kd.V_mono HO_307001.out (fun _ hk => ⟨⟨hk.1, ⟨hk.2.1, ⟨hk.2.2.2.1, ⟨hk.2.2.2.2.1, ⟨hk.2.2.2.2.2.1, hk.2.2.2.2.2.2⟩⟩⟩⟩⟩, hk.2.2.1⟩)) hg hat)
             have n2_ := Aq.mk (blk_grown (g := gb306) (o := .cells #[.int .i64 a0_0, .slice A0_1 l0_1.length c0_1] 26 (0, 0)) (by (with_reducible repeat (first | refine kQN ?_ _ | refine kQD ?_ | refine kQA ?_ _)); exact BK306.out) hg (Kd.R_ne HO_325001.out BK306.out (by decide)))
             have n3_ := Aq.mk (blk_grown (g := gb307) (o := .cells #[.int .i64 x308000_2, .slice none 0 0] 26 (0, 0)) (by (with_reducible repeat (first | refine kQN ?_ _ | refine kQD ?_ | refine kQA ?_ _)); exact BK307.out) hg (Kd.R_ne HO_325001.out BK307.out (by decide)))
             have n4_ := Aq.mk (blk_grown (g := gb309) (o := .cells #[.int .i64 t308] 2 (0, 0)) (by (with_reducible repeat (first | refine kQN ?_ _ | refine kQD ?_ | refine kQA ?_ _)); exact BK309.out) hg (Kd.R_away HO_325001.out (fun _ hk => hk.2.2)))
             have n5_ := Aq.mk (blk_grown (g := gb324) (o := .cells #[.int .i64 t308, u325001] 26 (0, 0)) (by (with_reducible repeat (first | refine kQN ?_ _ | refine kQD ?_ | refine kQA ?_ _)); exact BK324.out) hg (Kd.R_ne HO_325001.out BK324.out (by decide)))
             have n6_ := Aq.mk (hb)
             have n7_ := Aq.mk (ho)
             clear HO_46
             clear HO_307001
             clear BK306
             clear BK307
             clear BK309
             clear BK324
             clear HB
             clear HO_325001
             have HO_46 := n0_
             have HO_307001 := n1_
             have BK306 := n2_
             have BK307 := n3_
             have BK309 := n4_
             have BK324 := n5_
             have HB := n6_
             have HO328 := n7_
             clear n0_ n1_ n2_ n3_ n4_ n5_ n6_ n7_
             clear ho hb hg hat
             obtain ⟨Ao59, co59, eo59⟩ := Kd.R_slice HO328.out
             (first | subst eo59 | (injection eo59 with f1_ f2_ f3_; have f4_ := f1_.symm; have f5_ := f3_.symm; clear f1_ f2_ f3_; subst f4_; subst f5_))
             refine hK.out _ _ ⟨(kQC BK324.out 0).trans rfl, (kQC BK324.out 1).trans rfl, (kQC BK309.out 0).trans rfl⟩ (fun hHeld => ?_)
             clear hK K
             refine norm_ (a' := ?_) ?_ ?_
             rotate_left
             ·show Act.put _ (some 68) _ = _
              simp only [Act.put, qSa, qSb, qSc, i64_w, i32_w]
              rfl
             refine pure_ (i := 7) (N := some 69) (v := ?_) (a' := ?_) #[true, true, true, true, true, true, true, true, false] rfl rfl (any_of HT_.out (by kernel_rfl)) (fun _ _ _ h => h) (Or.inl ⟨by rfl, ?_⟩) ?_ ?_
             rotate_left
             ·intro w'
              go_simp
              with_reducible rfl
             rotate_left
             ·simp only [Act.put, qSa, qSb, qSc, i64_w, i32_w]
              rfl
             refine last_ (i := 8) (N := none) #[true, true, true, true, true, true, true, true, true] rfl rfl (one_of HT_.out (by kernel_rfl)) (by decide) (fun K hK => ?_)
             have hs60 : w58.cell? ⟨gb324, 1, none⟩ = some (u325001) := (kQC BK324.out 1).trans rfl
             have hfs60 := kQF BK324.out 1
             have hns60_0 := NB306_324.out
             have hns60_1 := NB307_324.out
             have hns60_2 := NB309_324.out
             have hms60_0 := NB324_306.out
             have hms60_1 := NB324_307.out
             have hms60_2 := NB324_309.out
             refine skip_ (w1 := ?_) (by rfl) rfl ?_ ?_
             rotate_left
             ·go_simp
              rfl
             refine hK.out _ _ ?_
             clear hK K
             refine done_ (done_of HT_.out (by kernel_rfl)) ?_
             try go_wp2
             go_roundg k2
             case measure => have := HK1.out; have := HK2.out; omega
             case rel => exact ⟨(wrap64 (x48_2 + 1)), (x308000_2), (y326), (.slice Ao59 y326.length co59), (by first | rfl | (simp; done) | (simp [*]; done)), H', ⟨by have := HK1.out; have := HK2.out; omega⟩, ⟨by (with_reducible repeat (first | apply Kd.RqA | apply Kd.RqN | apply Kd.RqD)); exact Kd.R_mono (Kd.R_far (p := ⟨gb324, 1, none⟩) (Kd.R_types HO_46.out BK324.out (by decide)) (fun _ hk => hk.2) (.slice Ao59 y326.length co59)) (fun _ hk => ⟨hk.1.1.1, ⟨hk.1.2, hk.1.1.2⟩⟩)⟩, ⟨by (with_reducible repeat (first | apply Kd.V_alloc | apply Kd.V_drewN | apply Kd.V_drew)); exact Kd.V_mono (Kd.V_far (p := ⟨gb324, 1, none⟩) (Kd.V_mono HO_307001.out (fun k_ hk => (⟨hk, hk.1.2.2.2.2.2⟩ : _ ∧ k_ ≠ gb324))) (fun _ hk => hk.2) (.slice Ao59 y326.length co59)) (fun _ hk => ⟨hk.1.1.1, ⟨hk.1.1.2.1, ⟨hk.1.2, ⟨hk.1.1.2.2.1, ⟨hk.1.1.2.2.2.1, ⟨hk.1.1.2.2.2.2.1, hk.1.1.2.2.2.2.2⟩⟩⟩⟩⟩⟩)⟩, ⟨by (with_reducible repeat (first | apply Kd.RqA | apply Kd.RqN | apply Kd.RqD)); exact Kd.R_mono (Kd.R_far (p := ⟨gb324, 1, none⟩) (Kd.R_types HO328.out BK324.out (by decide)) (fun _ hk => hk.2) (.slice Ao59 y326.length co59)) (fun _ hk => ⟨hk.1.1, ⟨hk.1.2.1, hk.1.2.2⟩⟩)⟩, ⟨by (with_reducible repeat (first | refine kQN ?_ _ | refine kQD ?_ | refine kQA ?_ _)); refine kQR ?_ NB306_324.out _; (with_reducible repeat (first | refine kQN ?_ _ | refine kQD ?_ | refine kQA ?_ _)); exact BK306.out⟩, ⟨by (with_reducible repeat (first | refine kQN ?_ _ | refine kQD ?_ | refine kQA ?_ _)); refine kQR ?_ NB307_324.out _; (with_reducible repeat (first | refine kQN ?_ _ | refine kQD ?_ | refine kQA ?_ _)); exact BK307.out⟩, ⟨by (with_reducible repeat (first | refine kQN ?_ _ | refine kQD ?_ | refine kQA ?_ _)); refine kQR ?_ NB309_324.out _; (with_reducible repeat (first | refine kQN ?_ _ | refine kQD ?_ | refine kQA ?_ _)); exact BK309.out⟩, ⟨by (with_reducible repeat (first | refine kQN ?_ _ | refine kQD ?_ | refine kQA ?_ _)); refine kQP (cs := #[.int .i64 t308, u325001]) ?_ 1 _ rfl; (with_reducible repeat (first | refine kQN ?_ _ | refine kQD ?_ | refine kQA ?_ _)); exact BK324.out⟩, ⟨by repeat (first | (with_reducible first | exact HB.out | apply bQA | apply bQN | apply bQ1 | refine bQS ?_ GE306.out | refine bQS ?_ GE307.out | refine bQS ?_ GE309.out | refine bQS ?_ GE324.out) | exact HB.out)⟩⟩
            ·rw [if_neg c55] at H
             exact absurd H (by simp)
           ·rw [if_neg c52] at H
            have c52b0 : ((Go.bits .and .i64 (rd t321 x48_2) (wrap64 ((ji49) - 1))) == (ji51)) = false := beq_eq_false_iff_ne.mpr c52
            have c52b1 : ((Go.bits .and .i64 (rd t321 x48_2) (wrap64 ((ji49) - 1))) != (ji51)) = true := bne_iff_ne.mpr c52
            simp only [Option.some.injEq, Prod.mk.injEq] at H
            obtain ⟨rfl, rfl, rfl⟩ := H
            have p325 : 0 ≤ (x48_2 : Int) := of_decide_eq_true (by first | (with_reducible assumption) | assumption)
            have q325 : x48_2 < (t321.length : Int) := of_decide_eq_true (by first | (with_reducible assumption) | assumption)
            obtain ⟨ad325, e325, hx325_0⟩ := Kd.at_int (Kd.R_reads' HO_46.out).2.2 x48_2 p325 q325
            cases e325
            replace p325 := eq_true p325
            replace q325 := eq_true q325
            try go_wp2
            have n0_ := Aq.mk (Kd.RqD HO_46.out)
            have n1_ := Aq.mk (Kd.V_drew HO_307001.out)
            have n2_ := Aq.mk (Kd.RqD HO_325001.out)
            have n3_ := Aq.mk (kQD BK306.out)
            have n4_ := Aq.mk (kQD BK307.out)
            have n5_ := Aq.mk (kQD BK309.out)
            have n6_ := Aq.mk (kQD BK324.out)
            have n7_ := Aq.mk (bQ1 HB.out)
            clear HO_46
            clear HO_307001
            clear HO_325001
            clear BK306
            clear BK307
            clear BK309
            clear BK324
            clear HB
            have HO_46 := n0_
            have HO_307001 := n1_
            have HO_325001 := n2_
            have BK306 := n3_
            have BK307 := n4_
            have BK309 := n5_
            have BK324 := n6_
            have HB := n7_
            clear n0_ n1_ n2_ n3_ n4_ n5_ n6_ n7_
            refine start_ (n := 8) (S := fun w' => w'.cell? ⟨gb309, 0, none⟩ = some (.int .i64 t308)) (ds := []) #[false, false, false, false, false, false, false, false] (by kernel_rfl) rfl rfl ((kQC BK309.out 0).trans rfl) (fun hHeld => ?_); refine with_tabW impl_InverseMatrix.tab16 impl_InverseMatrix.bits16 (fun HT_ HW_ => ?_)
            generalize wr.drew = w61 at HO_46 HO_307001 HO_325001 BK306 BK307 BK309 BK324 HB hHeld ⊢
            refine pure_ (i := 0) (N := some 53) (v := ?_) (a' := ?_) #[true, false, false, false, false, false, false, false] rfl rfl (any_of HT_.out (by kernel_rfl)) (fun _ _ _ h => h) (Or.inl ⟨by rfl, ?_⟩) ?_ ?_
            rotate_left
            ·intro w'
             go_simp
             with_reducible rfl
            rotate_left
            ·simp only [Act.put, qSa, qSb, qSc, i64_w, i32_w]
             rfl
            refine pure_ (i := 5) (N := some 58) (v := ?_) (a' := ?_) #[true, false, false, false, false, true, false, false] rfl rfl (any_of HT_.out (by kernel_rfl)) (fun _ _ _ h => h) (Or.inl ⟨by rfl, ?_⟩) ?_ ?_
            rotate_left
            ·intro w'
             go_simp
             with_reducible rfl
            rotate_left
            ·simp only [Act.put, qSa, qSb, qSc, i64_w, i32_w]
             rfl
            refine pure_ (i := 6) (N := some 59) (v := ?_) (a' := ?_) #[true, false, false, false, false, true, true, false] rfl rfl (any_of HT_.out (by kernel_rfl)) (fun _ _ _ h => h) (Or.inl ⟨by rfl, ?_⟩) ?_ ?_
            rotate_left
            ·intro w'
             go_simp
             with_reducible rfl
            rotate_left
            ·simp only [Act.put, qSa, qSb, qSc, i64_w, i32_w]
             rfl
            refine take_ (i := 1) (N := some 54) (v := ?_) (a' := ?_) #[true, true, false, false, false, true, true, false] rfl rfl (take_ofW HT_.out HW_.out (by kernel_rfl)) (fun _ _ _ h => h) (Or.inl ⟨by rfl, ?_⟩) hHeld ?_ ?_
            rotate_left
            ·intro w' s0
             go_simp
             with_reducible rfl
            rotate_left
            ·simp only [Act.put, qSa, qSb, qSc, i64_w, i32_w]
             rfl
            refine pure_ (i := 2) (N := some 55) (v := ?_) (a' := ?_) #[true, true, true, false, false, true, true, false] rfl rfl (any_of HT_.out (by kernel_rfl)) (fun _ _ _ h => h) (Or.inl ⟨by rfl, ?_⟩) ?_ ?_
            rotate_left
            ·intro w'
             go_simp
             with_reducible rfl
            rotate_left
            ·simp only [Act.put, qSa, qSb, qSc, i64_w, i32_w]
             rfl
            refine pure_ (i := 3) (N := some 56) (v := ?_) (a' := ?_) #[true, true, true, true, false, true, true, false] rfl rfl (any_of HT_.out (by kernel_rfl)) (fun _ _ _ h => h) (Or.inl ⟨by rfl, ?_⟩) ?_ ?_
            rotate_left
            ·intro w'
             go_simp
             with_reducible rfl
            rotate_left
            ·simp only [Act.put, qSa, qSb, qSc, i64_w, i32_w]
             rfl
            refine pure_ (i := 4) (N := some 57) (v := ?_) (a' := ?_) #[true, true, true, true, true, true, true, false] rfl rfl (any_of HT_.out (by kernel_rfl)) (fun _ _ _ h => h) (Or.inl ⟨by rfl, ?_⟩) ?_ ?_
            rotate_left
            ·intro w'
             go_simp
             with_reducible rfl
            rotate_left
            ·simp only [Act.put, qSa, qSb, qSc, i64_w, i32_w]
             rfl
            refine pure_ (i := 7) (N := some 60) (v := ?_) (a' := ?_) #[true, true, true, true, true, true, true, true] rfl rfl (any_of HT_.out (by kernel_rfl)) (fun _ _ _ h => h) (Or.inl ⟨by rfl, ?_⟩) ?_ ?_
            rotate_left
            ·intro w'
             go_simp
             with_reducible rfl
            rotate_left
            ·simp only [Act.put, qSa, qSb, qSc, i64_w, i32_w]
             rfl
            refine done_ (done_of HT_.out (by kernel_rfl)) ?_
            have hnb62 := NB307_306.out
            have hnc62 := NB306_307.out
            have hnb63 := NB307_309.out
            have hnc63 := NB309_307.out
            have hnb64 := NB307_324.out
            have hnc64 := NB324_307.out
            have hcz65_0 : w61.cell? ⟨gb307, 0, none⟩ = some (.int .i64 x308000_2) := (kQC BK307.out 0).trans rfl
            have hcz65_1 : w61.cell? ⟨gb307, 1, none⟩ = some (.slice none 0 0) := (kQC BK307.out 1).trans rfl
            have hfz65_0 := kQF BK307.out 0
            have hfz65_1 := kQF BK307.out 1
            try go_wp2
            refine bodyPost_ret (results_ct rfl _ _ gb307 26 #[.int .i64 0, .slice none 0 0] (0, 0) _ rfl (by (with_reducible repeat (first | refine kQN ?_ _ | refine kQD ?_ | refine kQA ?_ _)); refine kQP (cs := #[.int .i64 0, .slice none 0 0]) ?_ 1 _ rfl; (with_reducible repeat (first | refine kQN ?_ _ | refine kQD ?_ | refine kQA ?_ _)); refine kQP (cs := #[.int .i64 x308000_2, .slice none 0 0]) ?_ 0 _ rfl; (with_reducible repeat (first | refine kQN ?_ _ | refine kQD ?_ | refine kQA ?_ _)); exact BK307.out) Try.underlying26 rfl (by kernel_rfl)) rfl ?_
            exact ⟨_, by first | rfl | (simp [errW_none, errW_some] <;> rfl) | (simp only [← hji49, ← hji51]; first | rfl | (simp [errW_none, errW_some] <;> rfl)) | (simp [*, errW_none, errW_some] <;> rfl), by first | exact Kd.R_nil _ _ _ _ _ | exact Kd.N_nil _ _ _ _ _ | exact Kd.V_nil _ _ _ _ _ | exact Kd.Q_nil _ _ _ _ _ | exact Kd.S_nil _ _ _ _ _, by repeat (first | (with_reducible first | exact HB.out | apply bQA | apply bQN | apply bQ1 | refine bQS ?_ GE306.out | refine bQS ?_ GE307.out | refine bQS ?_ GE309.out | refine bQS ?_ GE324.out) | exact HB.out)⟩
          ·rw [if_neg c48] at H
           exact absurd H (by simp)
         ·rw [if_neg c47] at H
          exact absurd H (by simp)
        ·rw [if_neg c46] at H
         exact absurd H (by simp)
       ·rw [if_neg c45] at H
        have c45b0 : decide (x48_2 < (t321.length : Int)) = false := decide_eq_false c45
        clear c45
        simp only [Option.some.injEq, Prod.mk.injEq] at H
        obtain ⟨rfl, rfl, rfl⟩ := H
        have hnb66 := NB324_306.out
        have hnc66 := NB306_324.out
        have hnb67 := NB324_307.out
        have hnc67 := NB307_324.out
        have hnb68 := NB324_309.out
        have hnc68 := NB309_324.out
        have hcz69_0 : wr.cell? ⟨gb324, 0, none⟩ = some (.int .i64 t308) := (kQC BK324.out 0).trans rfl
        have hcz69_1 : wr.cell? ⟨gb324, 1, none⟩ = some (u325001) := (kQC BK324.out 1).trans rfl
        have hfz69_0 := kQF BK324.out 0
        have hfz69_1 := kQF BK324.out 1
        have hnb70 := NB307_306.out
        have hnc70 := NB306_307.out
        have hnb71 := NB307_309.out
        have hnc71 := NB309_307.out
        have hcz72_0 : wr.cell? ⟨gb307, 0, none⟩ = some (.int .i64 x308000_2) := (kQC BK307.out 0).trans rfl
        have hcz72_1 : wr.cell? ⟨gb307, 1, none⟩ = some (.slice none 0 0) := (kQC BK307.out 1).trans rfl
        have hfz72_0 := kQF BK307.out 0
        have hfz72_1 := kQF BK307.out 1
        obtain ⟨Ao73, co73, eo73⟩ := Kd.R_slice HO_325001.out
        subst eo73
        go_wp2
        refine bodyPost_ret (results_ct rfl _ _ gb307 26 #[.int .i64 t308, .slice Ao73 x325001_2.length co73] (0, 0) _ rfl (by (with_reducible repeat (first | refine kQN ?_ _ | refine kQD ?_ | refine kQA ?_ _)); refine kQP (cs := #[.int .i64 t308, .slice none 0 0]) ?_ 1 _ rfl; (with_reducible repeat (first | refine kQN ?_ _ | refine kQD ?_ | refine kQA ?_ _)); refine kQP (cs := #[.int .i64 x308000_2, .slice none 0 0]) ?_ 0 _ rfl; (with_reducible repeat (first | refine kQN ?_ _ | refine kQD ?_ | refine kQA ?_ _)); exact BK307.out) Try.underlying26 rfl (by kernel_rfl)) rfl ?_
        exact ⟨_, by first | rfl | (simp [errW_none, errW_some] <;> rfl) | (simp [*, errW_none, errW_some] <;> rfl), by (with_reducible repeat (first | apply Kd.RqA | apply Kd.RqN | apply Kd.RqD)); exact Kd.R_mono (Kd.R_far (p := ⟨gb307, 1, none⟩) (Kd.R_far (p := ⟨gb307, 0, none⟩) (Kd.R_types HO_325001.out BK307.out (by decide)) (fun _ hk => hk.2) (.int .i64 t308)) (fun _ hk => hk.2) (.slice Ao73 x325001_2.length co73)) (fun _ hk => hk.1.1), by repeat (first | (with_reducible first | exact HB.out | apply bQA | apply bQN | apply bQ1 | refine bQS ?_ GE306.out | refine bQS ?_ GE307.out | refine bQS ?_ GE309.out | refine bQS ?_ GE324.out) | exact HB.out)⟩
 ·rw [if_neg c4] at H
  have c4b0 : (t313 == 0) = false := beq_eq_false_iff_ne.mpr c4
  have c4b1 : (t313 != 0) = true := bne_iff_ne.mpr c4
  simp only [Option.some.injEq, Prod.mk.injEq] at H
  obtain ⟨rfl, rfl, rfl⟩ := H
  go_enter Try.func23, Try.ntmps23
  go_wp2_with (first | ((with_reducible refine gQd (N := 1) rfl ?_); refine xQe ?hg (N := 1) ?hd (cs := #[.int .i64 a0_0, .slice A0_1 l0_1.length c0_1]) (t := 26) ?hr ?_; (case hd => rfl); (case hg => rfl); (case hr => first | (go_simp; done) | (go_simp; rfl)); intro gb306 hg w74 hbox hb; have n0_ := Aq.mk (Kd.V_below (Kd.V_elderB (by (with_reducible repeat (first | apply Kd.V_alloc | apply Kd.V_drewN | apply Kd.V_drew)); exact HO0_1.out) gb306 (Nat.le_of_eq hg.symm)) hb); have n1_ := Aq.mk (bQT (by repeat (first | (with_reducible first | exact HB.out | apply bQA | apply bQN | apply bQ1) | exact HB.out)) hb); have n2_ := Aq.mk (hbox); have n3_ := Aq.mk ((by rw [hg]; exact (bQZ (by repeat (first | (with_reducible first | exact HB.out | apply bQA | apply bQN | apply bQ1) | exact HB.out))) : w.heap.size ≤ gb306)); have n4_ := Aq.mk ((by rw [hg]; exact (bQZ (by repeat (first | (with_reducible first | exact HB.out | apply bQA | apply bQN | apply bQ1) | exact HB.out))) : w.heap.size ≤ gb306)); clear HO0_1; clear HB; have HO0_1 := n0_; have HB := n1_; have BK306 := n2_; have GW306 := n3_; have GE306 := n4_; clear n0_ n1_ n2_ n3_ n4_; clear hb hbox hg) | ((with_reducible refine gQd (N := 2) rfl ?_); refine xQe ?hg (N := 2) ?hd (cs := #[.int .i64 0, .slice none 0 0]) (t := 26) ?hr ?_; (case hd => rfl); (case hg => rfl); (case hr => first | (go_simp; done) | (go_simp; rfl)); intro gb307 hg w75 hbox hb; have n0_ := Aq.mk (Kd.V_below (Kd.V_elderB (by (with_reducible repeat (first | apply Kd.V_alloc | apply Kd.V_drewN | apply Kd.V_drew)); exact HO0_1.out) gb307 (Nat.le_of_eq hg.symm)) hb); have n1_ := Aq.mk (kQB (g := gb306) (o := .cells #[.int .i64 a0_0, .slice A0_1 l0_1.length c0_1] 26 (0, 0)) (by (with_reducible repeat (first | refine kQN ?_ _ | refine kQD ?_ | refine kQA ?_ _)); exact BK306.out) hb); have n2_ := Aq.mk (bQT (by repeat (first | (with_reducible first | exact HB.out | apply bQA | apply bQN | apply bQ1 | refine bQS ?_ GE306.out) | exact HB.out)) hb); have n3_ := Aq.mk (hbox); have n4_ := Aq.mk ((by rw [hg]; exact (bQZ (by repeat (first | (with_reducible first | exact HB.out | apply bQA | apply bQN | apply bQ1 | refine bQS ?_ GE306.out) | exact HB.out))) : w.heap.size ≤ gb307)); have n5_ := Aq.mk ((by rw [hg]; exact (bQZ (by repeat (first | (with_reducible first | exact HB.out | apply bQA | apply bQN | apply bQ1 | refine bQS ?_ GE306.out) | exact HB.out))) : w.heap.size ≤ gb307)); have n6_ := Aq.mk ((by rw [hg]; exact Nat.ne_of_lt (blk_lt (g := gb306) (o := .cells #[.int .i64 a0_0, .slice A0_1 l0_1.length c0_1] 26 (0, 0)) (by (with_reducible repeat (first | refine kQN ?_ _ | refine kQD ?_ | refine kQA ?_ _)); exact BK306.out)) : gb306 ≠ gb307)); have n7_ := Aq.mk ((by rw [hg]; exact Nat.ne_of_gt (blk_lt (g := gb306) (o := .cells #[.int .i64 a0_0, .slice A0_1 l0_1.length c0_1] 26 (0, 0)) (by (with_reducible repeat (first | refine kQN ?_ _ | refine kQD ?_ | refine kQA ?_ _)); exact BK306.out)) : gb307 ≠ gb306)); clear HO0_1; clear BK306; clear HB; have HO0_1 := n0_; have BK306 := n1_; have HB := n2_; have BK307 := n3_; have GW307 := n4_; have GE307 := n5_; have NB306_307 := n6_; have NB307_306 := n7_; clear n0_ n1_ n2_ n3_ n4_ n5_ n6_ n7_; clear hb hbox hg; have hnb76 := NB306_307.out; have hnc76 := NB307_306.out; have hcz77_0 : w75.cell? ⟨gb306, 0, none⟩ = some (.int .i64 a0_0) := (kQC BK306.out 0).trans rfl; have hcz77_1 : w75.cell? ⟨gb306, 1, none⟩ = some (.slice A0_1 l0_1.length c0_1) := (kQC BK306.out 1).trans rfl; have hfz77_0 := kQF BK306.out 0; have hfz77_1 := kQF BK306.out 1) | ((with_reducible refine gQc (f := 63) rfl ?_); refine goesL_ (some 14) rfl rfl Try.func63 (by kernel_rfl) rfl #[.slice A0_1 l0_1.length c0_1] rfl (by (try simp only [List.map_toArray, List.map_cons, List.map_nil]); first | done | rfl | (simp only [List.length_drop, List.length_take]; rfl)) ?_; (with_reducible refine (impl_size_int64.calls _ _ l0_1 t308 _ ?side1 ?side2 A2.out).mono ?_); (case side1 => repeat (first | exact (Kd.V_reads' HO0_1.out).2.2 | (with_reducible refine Kd.CqA ?_ _) | (with_reducible refine Kd.CqN ?_ _) | (with_reducible refine Kd.CqD ?_))); (case side2 => exact (Kd.V_reads' HO0_1.out).2.1); rintro e w' ⟨rfl, ⟨nd, rfl⟩⟩; refine ⟨_, rfl, ?_⟩; (try (rw [drewN_self w75]; generalize hq_ : World.drewN w75 _ = w75; have n0_ : Aq (Kd.V (Kd.int .i64) 2 w75 w.heap.size (fun k_ => ((((P0_1_ k_ ∨ w.heap.size ≤ k_)) ∧ k_ ≠ gb306) ∧ k_ ≠ gb307)) (.slice A0_1 l0_1.length c0_1) l0_1) := ⟨by rw [← hq_]; exact (by (with_reducible repeat (first | apply Kd.V_alloc | apply Kd.V_drewN | apply Kd.V_drew)); exact HO0_1.out)⟩; have n1_ : Aq (w75.heap[gb306]? = some (.cells #[.int .i64 a0_0, .slice A0_1 l0_1.length c0_1] 26 (0, 0))) := ⟨by rw [← hq_]; exact (by (with_reducible repeat (first | refine kQN ?_ _ | refine kQD ?_ | refine kQA ?_ _)); exact BK306.out)⟩; have n2_ : Aq (w75.heap[gb307]? = some (.cells #[.int .i64 0, .slice none 0 0] 26 (0, 0))) := ⟨by rw [← hq_]; exact (by (with_reducible repeat (first | refine kQN ?_ _ | refine kQD ?_ | refine kQA ?_ _)); exact BK307.out)⟩; have n3_ : Aq (Below w.heap.size w w75) := ⟨by rw [← hq_]; exact (by repeat (first | (with_reducible first | exact HB.out | apply bQA | apply bQN | apply bQ1 | refine bQS ?_ GE306.out | refine bQS ?_ GE307.out) | exact HB.out))⟩; clear HO0_1 BK306 BK307 HB hq_; have HO0_1 := n0_; have BK306 := n1_; have BK307 := n2_; have HB := n3_; clear n0_ n1_ n2_ n3_))) | ((with_reducible refine gQd (N := 4) rfl ?_); refine xQe ?hg (N := 4) ?hd (cs := #[.int .i64 0]) (t := 2) ?hr ?_; (case hd => rfl); (case hg => rfl); (case hr => first | (go_simp; done) | (go_simp; rfl)); intro gb309 hg w78 hbox hb; have n0_ := Aq.mk (Kd.V_below (Kd.V_elderB (by (with_reducible repeat (first | apply Kd.V_alloc | apply Kd.V_drewN | apply Kd.V_drew)); exact HO0_1.out) gb309 (Nat.le_of_eq hg.symm)) hb); have n1_ := Aq.mk (kQB (g := gb306) (o := .cells #[.int .i64 a0_0, .slice A0_1 l0_1.length c0_1] 26 (0, 0)) (by (with_reducible repeat (first | refine kQN ?_ _ | refine kQD ?_ | refine kQA ?_ _)); exact BK306.out) hb); have n2_ := Aq.mk (kQB (g := gb307) (o := .cells #[.int .i64 0, .slice none 0 0] 26 (0, 0)) (by (with_reducible repeat (first | refine kQN ?_ _ | refine kQD ?_ | refine kQA ?_ _)); exact BK307.out) hb); have n3_ := Aq.mk (bQT (by repeat (first | (with_reducible first | exact HB.out | apply bQA | apply bQN | apply bQ1 | refine bQS ?_ GE306.out | refine bQS ?_ GE307.out) | exact HB.out)) hb); have n4_ := Aq.mk (hbox); have n5_ := Aq.mk ((by rw [hg]; exact (bQZ (by repeat (first | (with_reducible first | exact HB.out | apply bQA | apply bQN | apply bQ1 | refine bQS ?_ GE306.out | refine bQS ?_ GE307.out) | exact HB.out))) : w.heap.size ≤ gb309)); have n6_ := Aq.mk ((by rw [hg]; exact (bQZ (by repeat (first | (with_reducible first | exact HB.out | apply bQA | apply bQN | apply bQ1 | refine bQS ?_ GE306.out | refine bQS ?_ GE307.out) | exact HB.out))) : w.heap.size ≤ gb309)); have n7_ := Aq.mk ((by rw [hg]; exact Nat.ne_of_lt (blk_lt (g := gb306) (o := .cells #[.int .i64 a0_0, .slice A0_1 l0_1.length c0_1] 26 (0, 0)) (by (with_reducible repeat (first | refine kQN ?_ _ | refine kQD ?_ | refine kQA ?_ _)); exact BK306.out)) : gb306 ≠ gb309)); have n8_ := Aq.mk ((by rw [hg]; exact Nat.ne_of_gt (blk_lt (g := gb306) (o := .cells #[.int .i64 a0_0, .slice A0_1 l0_1.length c0_1] 26 (0, 0)) (by (with_reducible repeat (first | refine kQN ?_ _ | refine kQD ?_ | refine kQA ?_ _)); exact BK306.out)) : gb309 ≠ gb306)); have n9_ := Aq.mk ((by rw [hg]; exact Nat.ne_of_lt (blk_lt (g := gb307) (o := .cells #[.int .i64 0, .slice none 0 0] 26 (0, 0)) (by (with_reducible repeat (first | refine kQN ?_ _ | refine kQD ?_ | refine kQA ?_ _)); exact BK307.out)) : gb307 ≠ gb309)); have n10_ := Aq.mk ((by rw [hg]; exact Nat.ne_of_gt (blk_lt (g := gb307) (o := .cells #[.int .i64 0, .slice none 0 0] 26 (0, 0)) (by (with_reducible repeat (first | refine kQN ?_ _ | refine kQD ?_ | refine kQA ?_ _)); exact BK307.out)) : gb309 ≠ gb307)); clear HO0_1; clear BK306; clear BK307; clear HB; have HO0_1 := n0_; have BK306 := n1_; have BK307 := n2_; have HB := n3_; have BK309 := n4_; have GW309 := n5_; have GE309 := n6_; have NB306_309 := n7_; have NB309_306 := n8_; have NB307_309 := n9_; have NB309_307 := n10_; clear n0_ n1_ n2_ n3_ n4_ n5_ n6_ n7_ n8_ n9_ n10_; clear hb hbox hg; have hnb79 := NB309_306.out; have hnc79 := NB306_309.out; have hnb80 := NB309_307.out; have hnc80 := NB307_309.out; have hcz81_0 : w78.cell? ⟨gb309, 0, none⟩ = some (.int .i64 0) := (kQC BK309.out 0).trans rfl; have hfz81_0 := kQF BK309.out 0) | ((with_reducible refine gate_store (t := 2) (p := 4) rfl ?_); refine store_event (t := 2) (p := 4) (v := ?vo_w82) (w1 := (w78.setCell ⟨gb309, 0, none⟩ (.int .i64 t308))) ?hg ?ho ?hn ?hr ?_; (case ho => rfl); (case hg => rfl); (case hn => rfl); (case hr => first | (go_simp; done) | (go_simp; rfl)); intro w82 hw; have n0_ : Aq (Kd.V (Kd.int .i64) 2 w82 w.heap.size (fun k_ => (P0_1_ k_ ∨ w.heap.size ≤ k_) ∧ k_ ≠ gb306 ∧ k_ ≠ gb307 ∧ k_ ≠ gb309) (.slice A0_1 l0_1.length c0_1) l0_1) := ⟨(by rw [hw]; exact (by (with_reducible repeat (first | apply Kd.V_alloc | apply Kd.V_drewN | apply Kd.V_drew)); exact Kd.V_mono (Kd.V_far (p := ⟨gb309, 0, none⟩) (Kd.V_mono HO0_1.out (fun k_ hk => (⟨hk, hk.2⟩ : _ ∧ k_ ≠ gb309))) (fun _ hk => hk.2) (.int .i64 t308)) (fun _ hk => ⟨hk.1.1.1.1, ⟨hk.1.1.1.2, ⟨hk.1.1.2, hk.1.2⟩⟩⟩)))⟩; have n1_ : Aq (w82.heap[gb306]? = some (.cells #[.int .i64 a0_0, .slice A0_1 l0_1.length c0_1] 26 (0, 0))) := ⟨(by rw [hw]; exact (by (with_reducible repeat (first | refine kQN ?_ _ | refine kQD ?_ | refine kQA ?_ _)); refine kQR ?_ NB306_309.out _; (with_reducible repeat (first | refine kQN ?_ _ | refine kQD ?_ | refine kQA ?_ _)); exact BK306.out))⟩; have n2_ : Aq (w82.heap[gb307]? = some (.cells #[.int .i64 0, .slice none 0 0] 26 (0, 0))) := ⟨(by rw [hw]; exact (by (with_reducible repeat (first | refine kQN ?_ _ | refine kQD ?_ | refine kQA ?_ _)); refine kQR ?_ NB307_309.out _; (with_reducible repeat (first | refine kQN ?_ _ | refine kQD ?_ | refine kQA ?_ _)); exact BK307.out))⟩; have n3_ : Aq (w82.heap[gb309]? = some (.cells #[.int .i64 t308] 2 (0, 0))) := ⟨(by rw [hw]; exact (by (with_reducible repeat (first | refine kQN ?_ _ | refine kQD ?_ | refine kQA ?_ _)); refine kQP (cs := #[.int .i64 0]) ?_ 0 _ rfl; (with_reducible repeat (first | refine kQN ?_ _ | refine kQD ?_ | refine kQA ?_ _)); exact BK309.out))⟩; have n4_ : Aq (Below w.heap.size w w82) := ⟨(by rw [hw]; exact (by repeat (first | (with_reducible first | exact HB.out | apply bQA | apply bQN | apply bQ1 | refine bQS ?_ GE306.out | refine bQS ?_ GE307.out | refine bQS ?_ GE309.out) | exact HB.out)))⟩; clear hw; clear HO0_1; clear BK306; clear BK307; clear BK309; clear HB; have HO0_1 := n0_; have BK306 := n1_; have BK307 := n2_; have BK309 := n3_; have HB := n4_; clear n0_ n1_ n2_ n3_ n4_; have hcz83_0 : w82.cell? ⟨gb306, 0, none⟩ = some (.int .i64 a0_0) := (kQC BK306.out 0).trans rfl; have hcz83_1 : w82.cell? ⟨gb306, 1, none⟩ = some (.slice A0_1 l0_1.length c0_1) := (kQC BK306.out 1).trans rfl; have hfz83_0 := kQF BK306.out 0; have hfz83_1 := kQF BK306.out 1) | ((with_reducible refine gQd (N := 17) rfl ?_); refine Kd.N_lit k26 _ 26 ?hg (N' := 17) ?hd (xs := ([(⟨a0_0, l0_1⟩ : S26)] : List (S26))) (inner := [.int .i64 a0_0, .slice A0_1 l0_1.length c0_1]) (ok := (fun k_ => (P0_1_ k_ ∨ w.heap.size ≤ k_) ∧ k_ ≠ gb306 ∧ k_ ≠ gb307 ∧ k_ ≠ gb309)) (okp := (fun k_ => (P0_1_ k_ ∨ w.heap.size ≤ k_) ∧ k_ ≠ gb306 ∧ k_ ≠ gb307 ∧ k_ ≠ gb309)) ?hr ?hp (fun _ hk => hk) ((show ∀ k_, w82.heap.size ≤ k_ → (fun k_ => (P0_1_ k_ ∨ w.heap.size ≤ k_) ∧ k_ ≠ gb306 ∧ k_ ≠ gb307 ∧ k_ ≠ gb309) k_ from fun k_ hk => ⟨(.inr (Nat.le_trans (bQZ (by repeat (first | (with_reducible first | exact HB.out | apply bQA | apply bQN | apply bQ1 | refine bQS ?_ GE306.out | refine bQS ?_ GE307.out | refine bQS ?_ GE309.out) | exact HB.out))) hk)), Kd.freshB (g := gb306) (o := .cells #[.int .i64 a0_0, .slice A0_1 l0_1.length c0_1] 26 (0, 0)) (by (with_reducible repeat (first | refine kQN ?_ _ | refine kQD ?_ | refine kQA ?_ _)); exact BK306.out) k_ hk, Kd.freshB (g := gb307) (o := .cells #[.int .i64 0, .slice none 0 0] 26 (0, 0)) (by (with_reducible repeat (first | refine kQN ?_ _ | refine kQD ?_ | refine kQA ?_ _)); exact BK307.out) k_ hk, Kd.freshB (g := gb309) (o := .cells #[.int .i64 t308] 2 (0, 0)) (by (with_reducible repeat (first | refine kQN ?_ _ | refine kQD ?_ | refine kQA ?_ _)); exact BK309.out) k_ hk⟩) _ (Nat.le_refl _)) (Below.refl _ _) (Nat.le_refl _) (by simp) ?_; (case hd => rfl); (case hg => rfl); (case hr => first | (go_simp; done) | (go_simp; rfl)); (case hp => exact (Reps.c2 (show Kd.FK k26 _ _ (⟨a0_0, l0_1⟩ : S26) [.int .i64 a0_0, .slice A0_1 l0_1.length c0_1] from (k26_mkF _ _ (⟨a0_0, l0_1⟩ : S26) (Kd.V_reads' (Kd.V_mono (ok' := (fun k_ => (P0_1_ k_ ∨ w.heap.size ≤ k_) ∧ k_ ≠ gb306 ∧ k_ ≠ gb307 ∧ k_ ≠ gb309)) (HO0_1.out) (fun k_ hk => ⟨hk.1, ⟨hk.2.1, ⟨hk.2.2.1, hk.2.2.2⟩⟩⟩))).2.1 (Kd.V_F (Kd.V_mono (ok' := (fun k_ => (P0_1_ k_ ∨ w.heap.size ≤ k_) ∧ k_ ≠ gb306 ∧ k_ ≠ gb307 ∧ k_ ≠ gb309)) (HO0_1.out) (fun k_ hk => ⟨hk.1, ⟨hk.2.1, ⟨hk.2.2.1, hk.2.2.2⟩⟩⟩))))) (Reps.none _ _))); intro v311 w84 ho85 hb hg_ hnew_; clear hg_ hnew_; (first | rw [← Ny310.out] at ho85 | (simp only [Int.reduceToNat] at ho85; rw [← Ny310.out] at ho85)); have n0_ := Aq.mk (Kd.V_elder' (by (with_reducible repeat (first | apply Kd.V_alloc | apply Kd.V_drewN | apply Kd.V_drew)); exact HO0_1.out) (Kd.N_base ho85) hb); have n1_ := Aq.mk (Kd.N_lower ho85 (bQZ (by repeat (first | (with_reducible first | exact HB.out | apply bQA | apply bQN | apply bQ1 | refine bQS ?_ GE306.out | refine bQS ?_ GE307.out | refine bQS ?_ GE309.out) | exact HB.out)))); have n2_ := Aq.mk (kQB (g := gb306) (o := .cells #[.int .i64 a0_0, .slice A0_1 l0_1.length c0_1] 26 (0, 0)) (by (with_reducible repeat (first | refine kQN ?_ _ | refine kQD ?_ | refine kQA ?_ _)); exact BK306.out) hb); have n3_ := Aq.mk (kQB (g := gb307) (o := .cells #[.int .i64 0, .slice none 0 0] 26 (0, 0)) (by (with_reducible repeat (first | refine kQN ?_ _ | refine kQD ?_ | refine kQA ?_ _)); exact BK307.out) hb); have n4_ := Aq.mk (kQB (g := gb309) (o := .cells #[.int .i64 t308] 2 (0, 0)) (by (with_reducible repeat (first | refine kQN ?_ _ | refine kQD ?_ | refine kQA ?_ _)); exact BK309.out) hb); have n5_ := Aq.mk (bQT (by repeat (first | (with_reducible first | exact HB.out | apply bQA | apply bQN | apply bQ1 | refine bQS ?_ GE306.out | refine bQS ?_ GE307.out | refine bQS ?_ GE309.out) | exact HB.out)) hb); clear HO0_1; clear BK306; clear BK307; clear BK309; clear HB; have HO0_1 := n0_; have HO312 := n1_; have BK306 := n2_; have BK307 := n3_; have BK309 := n4_; have HB := n5_; clear n0_ n1_ n2_ n3_ n4_ n5_; clear hb ho85; obtain ⟨Ao86, co86, eo86⟩ := Kd.N_slice HO312.out; subst eo86) | ((with_reducible refine gQc (f := 64) rfl ?_); refine goesL_ (some 18) rfl rfl Try.func64 (by kernel_rfl) rfl #[.func (.func 65) #[] #[.pointer (some ⟨gb306, 0, none⟩), .pointer (some ⟨gb309, 0, none⟩)], .slice Ao86 y310.length co86] rfl (by (try simp only [List.map_toArray, List.map_cons, List.map_nil]); first | done | rfl | (simp only [List.length_drop, List.length_take]; rfl)) ?_; (with_reducible refine (impl_matricesCode_AT_impl_InverseMatrix_1.calls k (⟨gb306, 0, none⟩ : Addr) (⟨gb309, 0, none⟩ : Addr) a0_0 A0_1 c0_1 l0_1 t308 _ _ y310 t313 _ ?side1 ?side2 ?side3 ?side4 ?side5 ?side6 A3.out).mono ?_); (case side1 => repeat (first | exact (Kd.V_reads' HO0_1.out).2.2 | (with_reducible refine Kd.CqA ?_ _) | (with_reducible refine Kd.CqN ?_ _) | (with_reducible refine Kd.CqD ?_))); (case side2 => exact (Kd.V_reads' HO0_1.out).2.1); (case side3 => repeat (first | exact (Kd.N_reads' HO312.out).2.2 | (with_reducible refine Kd.CqA ?_ _) | (with_reducible refine Kd.CqN ?_ _) | (with_reducible refine Kd.CqD ?_))); (case side4 => exact (Kd.N_reads' HO312.out).2.1); (case side5 => exact AtC.of_blk (g := gb306) (t := 26) (cs := #[.int .i64 a0_0, .slice A0_1 l0_1.length c0_1]) (by (with_reducible repeat (first | refine kQN ?_ _ | refine kQD ?_ | refine kQA ?_ _)); exact BK306.out) rfl); (case side6 => exact AtC.of_blk (g := gb309) (t := 2) (cs := #[.int .i64 t308]) (by (with_reducible repeat (first | refine kQN ?_ _ | refine kQD ?_ | refine kQA ?_ _)); exact BK309.out) rfl); rintro e w87 ⟨rfl, hb⟩; refine ⟨_, rfl, ?_⟩; have n0_ := Aq.mk (Kd.V_below (by (with_reducible repeat (first | apply Kd.V_alloc | apply Kd.V_drewN | apply Kd.V_drew)); exact HO0_1.out) hb); have n1_ := Aq.mk (Kd.N_below (by (with_reducible repeat (first | apply Kd.N_alloc | apply Kd.N_drewN | apply Kd.N_drew)); exact HO312.out) hb); have n2_ := Aq.mk (kQB (g := gb306) (o := .cells #[.int .i64 a0_0, .slice A0_1 l0_1.length c0_1] 26 (0, 0)) (by (with_reducible repeat (first | refine kQN ?_ _ | refine kQD ?_ | refine kQA ?_ _)); exact BK306.out) hb); have n3_ := Aq.mk (kQB (g := gb307) (o := .cells #[.int .i64 0, .slice none 0 0] 26 (0, 0)) (by (with_reducible repeat (first | refine kQN ?_ _ | refine kQD ?_ | refine kQA ?_ _)); exact BK307.out) hb); have n4_ := Aq.mk (kQB (g := gb309) (o := .cells #[.int .i64 t308] 2 (0, 0)) (by (with_reducible repeat (first | refine kQN ?_ _ | refine kQD ?_ | refine kQA ?_ _)); exact BK309.out) hb); have n5_ := Aq.mk (bQT (by repeat (first | (with_reducible first | exact HB.out | apply bQA | apply bQN | apply bQ1 | refine bQS ?_ GE306.out | refine bQS ?_ GE307.out | refine bQS ?_ GE309.out) | exact HB.out)) hb); clear HO0_1; clear HO312; clear BK306; clear BK307; clear BK309; clear HB; have HO0_1 := n0_; have HO312 := n1_; have BK306 := n2_; have BK307 := n3_; have BK309 := n4_; have HB := n5_; clear n0_ n1_ n2_ n3_ n4_ n5_; (try clear hb); (try clear hb2); (try clear hk); (try clear hi); have hcz88_0 : w87.cell? ⟨gb307, 0, none⟩ = some (.int .i64 0) := (kQC BK307.out 0).trans rfl; have hcz88_1 : w87.cell? ⟨gb307, 1, none⟩ = some (.slice none 0 0) := (kQC BK307.out 1).trans rfl; have hfz88_0 := kQF BK307.out 0; have hfz88_1 := kQF BK307.out 1))
  refine bodyPost_ret (results_ct rfl _ _ gb307 26 #[.int .i64 0, .slice none 0 0] (0, 0) _ rfl (by (with_reducible repeat (first | refine kQN ?_ _ | refine kQD ?_ | refine kQA ?_ _)); refine kQP (cs := #[.int .i64 0, .slice none 0 0]) ?_ 1 _ rfl; (with_reducible repeat (first | refine kQN ?_ _ | refine kQD ?_ | refine kQA ?_ _)); refine kQP (cs := #[.int .i64 0, .slice none 0 0]) ?_ 0 _ rfl; (with_reducible repeat (first | refine kQN ?_ _ | refine kQD ?_ | refine kQA ?_ _)); exact BK307.out) Try.underlying26 rfl (by kernel_rfl)) rfl ?_
  exact ⟨_, by first | rfl | (simp [errW_none, errW_some] <;> rfl) | (simp [*, errW_none, errW_some] <;> rfl), by first | exact Kd.R_nil _ _ _ _ _ | exact Kd.N_nil _ _ _ _ _ | exact Kd.V_nil _ _ _ _ _ | exact Kd.Q_nil _ _ _ _ _ | exact Kd.S_nil _ _ _ _ _, by repeat (first | (with_reducible first | exact HB.out | apply bQA | apply bQN | apply bQ1 | refine bQS ?_ GE306.out | refine bQS ?_ GE307.out | refine bQS ?_ GE309.out) | exact HB.out)⟩
end Go.Proofs.Ytbaicdgkpnbipaa.P
