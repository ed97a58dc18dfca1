/- Functions of the program and what they tell, as the printing program wrote it. -/
import Derived.Test.YtbalkaphibnpcaaPx0
import Derived.Test.YtbalkaphibnpcaaPx2
import Derived.Test.YtbalkaphibnpcaaPx19
namespace Go.Proofs.Ytbalkaphibnpcaa.P
open Go.Shelf Go.RowKit Go.Proofs.YtbalkaphibnpcaaW.PrintWords Go.Proofs.YtbalkaphibnpcaaW.PrintLast Go.Proofs.YtbalkaphibnpcaaW.PrintMore
attribute [local go_sem] max2_int min2_int max_two min_two max_three min_three max_four min_four
set_option linter.unusedVariables false
set_option linter.unusedSimpArgs false
set_option maxHeartbeats 8000000
set_option maxRecDepth 100000
def spec_l02Sum.f (k : Nat) (a0_0 : Int) (l0_1 : List Int) (a1_0 : Int) (l1_1 : List Int) : Option (Int × List Int) := (spec_l00Own.f l0_1).bind fun t755 => (if t755.length + l1_1.length < 17592186044416 then ((spec_l02Echelon.f k a0_0 (t755 ++ l1_1)).bind fun t761 => (some (a0_0, t761))) else (none))
theorem spec_l02Sum.mono : ∀ a0 a1 a2 a3 k, LeO (spec_l02Sum.f k a0 a1 a2 a3) (spec_l02Sum.f (k + 1) a0 a1 a2 a3) := by
 intro a0 a1 a2 a3 k
 unfold spec_l02Sum.f
 repeat' first
  | (with_reducible first | apply spec_l02Echelon.mono | exact LeO.refl _ | exact LeO.none _ | refine LeO.ite ?_ ?_ | refine LeO.bind ?_ (fun _ => ?_))
  | exact LeO.none _
  | refine LeO.ite ?_ ?_
  | refine LeO.bind ?_ (fun _ => ?_)
def spec_l02Sum.T1 : Bool × List (List Nat × List Nat) := (true, [([], []), ([0], [0]), ([1], [1]), ([2], [2]), ([], []), ([4], [4]), ([5], [5]), ([6], [6]), ([], []), ([8], [8]), ([9], [9]), ([10], [10]), ([11], [11]), ([], []), ([13], [13]), ([14], [14]), ([15], [15]), ([12, 16, 12], [12, 16]), ([7, 17, 17], [7, 17]), ([3, 18], [3, 18]), ([19, 18, 0, 1, 2, 3, 4, 5, 6, 7, 8, 9, 10, 11, 12, 13, 14, 15, 16, 17, 18, 19], [19])])
def spec_l02Sum.B1 : List Nat := [0, 1, 3, 7, 0, 16, 48, 112, 0, 256, 768, 1792, 3840, 0, 8192, 24576, 57344, 130816, 262128, 524287, 1048575]
theorem spec_l02Sum.tab1 : rtab .any (opsOf Try.f90 1) = spec_l02Sum.T1 := by kernel_rfl
theorem spec_l02Sum.bits1 : waitsOk spec_l02Sum.T1.2 spec_l02Sum.B1 = true := by kernel_rfl
theorem spec_l02Sum.calls (k : Nat) (g0_0 : Addr) (a0_0 : Int) (A0_1 : Option Addr) (c0_1 : Nat) (l0_1 : List Int) (g1_0 : Addr) (a1_0 : Int) (A1_1 : Option Addr) (c1_1 : Nat) (l1_1 : List Int) (r1 : Int) (r2 : List Int) (w : World) (hr0_1 : Kd.C (Kd.int .i64) w A0_1 l0_1.length l0_1) (hc0_1 : l0_1.length ≤ c0_1) (hr1_1 : Kd.C (Kd.int .i64) w A1_1 l1_1.length l1_1) (hc1_1 : l1_1.length ≤ c1_1) (hb0_0 : AtC w g0_0 [.int .i64 a0_0, .slice A0_1 l0_1.length c0_1]) (hb1_0 : AtC w g1_0 [.int .i64 a1_0, .slice A1_1 l1_1.length c1_1]) (h : spec_l02Sum.f k a0_0 l0_1 a1_0 l1_1 = some (r1, r2)) :
 Calls Try.prog 90 #[.pointer (some g0_0), .pointer (some g1_0)] w fun e w' => ∃ v1_ : Value, e = .returned (.agg #[.int .i64 r1, v1_]) ∧ Kd.R (Kd.int .i64) 2 w' w.heap.size (fun _ => True) v1_ r2 ∧ Below w.heap.size w w' := by
 have hu63 := Try.underlying63
 have HR0_1 := Aq.mk hr0_1
 have HC0_1 := Aq.mk hc0_1
 clear hr0_1 hc0_1
 have HR1_1 := Aq.mk hr1_1
 have HC1_1 := Aq.mk hc1_1
 clear hr1_1 hc1_1
 have BK40 := Aq.mk hb0_0
 clear hb0_0
 have BK48 := Aq.mk hb1_0
 clear hb1_0
 have HB := Aq.mk (Below.refl w.heap.size w)
 have H : ((spec_l00Own.f l0_1).bind fun t755 => (if t755.length + l1_1.length < 17592186044416 then ((spec_l02Echelon.f k a0_0 (t755 ++ l1_1)).bind fun t761 => (some (a0_0, t761))) else (none))) = some (r1, r2) := h
 clear h
 obtain ⟨t755, A3, H⟩ := qBd H
 by_cases c4 : t755.length + l1_1.length < 17592186044416
 rotate_left
 ·rw [if_neg c4] at H
  exact absurd H (by simp)
 rw [if_pos c4] at H
 have LMc4 := Aq.mk c4
 clear c4
 obtain ⟨y758, hy758⟩ : ∃ y_ : List Int, y_ = (t755 ++ l1_1) := ⟨_, rfl⟩
 replace H : ((spec_l02Echelon.f k a0_0 y758).bind fun t761 => (some (a0_0, t761))) = some (r1, r2) := by first | (rw [hy758]; with_reducible exact H) | (have H2_ := (Option.bind_some _ _).symm.trans H; rw [hy758]; with_reducible exact H2_) | (have H2_ := (Option.bind_some _ _).symm.trans H; with_reducible exact H2_) | with_reducible exact H | (rw [hy758]; exact H) | exact H
 have Ny758 := Aq.mk hy758
 clear hy758
 obtain ⟨t761, A5, H⟩ := qBd H
 simp only [Option.some.injEq, Prod.mk.injEq] at H
 obtain ⟨rfl, rfl⟩ := H
 go_enter Try.func90, Try.ntmps90
 try go_wp2_with (first | ((with_reducible refine gQd (N := 4) rfl ?_); refine xQe ?hg (N := 4) ?hd (cs := #[.int .i64 0, .slice none 0 0]) (t := 63) ?hr ?_; (case hd => rfl); (case hg => rfl); (case hr => exact tH); intro gb754 hg w6 hbox hb; refine qM4 (bQT tB hb) hbox (tZ w hg) (tZ w hg) ?_; clear HB; intro HB BK754 GW754 GE754; clear hb hbox hg))
 have n0_ := Aq.mk (kQD BK754.out)
 have n1_ := Aq.mk (bQ1 HB.out)
 clear BK754
 clear HB
 have BK754 := n0_
 have HB := n1_
 clear n0_ n1_
 refine start_ (n := 21) (S := fun w' => w'.cell? g0_0 = some (.int .i64 a0_0) ∧ w'.cell? ⟨g0_0.block, g0_0.off + 1, none⟩ = some (.slice A0_1 l0_1.length c0_1) ∧ w'.cell? g1_0 = some (.int .i64 a1_0) ∧ w'.cell? ⟨g1_0.block, g1_0.off + 1, none⟩ = some (.slice A1_1 l1_1.length c1_1)) (ds := []) #[false, false, false, false, false, false, false, false, false, false, false, false, false, false, false, false, false, false, false, false, false] (by kernel_rfl) rfl rfl ⟨(tcw tB (AtC.cell0 BK40.out _ rfl)), (tcw tB (AtC.cell BK40.out 1 _ (by decide) rfl)), (tcw tB (AtC.cell0 BK48.out _ rfl)), (tcw tB (AtC.cell BK48.out 1 _ (by decide) rfl))⟩ (fun hHeld => ?_); refine with_tabW spec_l02Sum.tab1 spec_l02Sum.bits1 (fun HT_ HW_ => ?_)
 generalize w6.drew = w7 at BK754 HB hHeld ⊢
 refine tP0 0 5 (bm 21 1) ?_
 refine tP0 1 6 (bm 21 3) ?_
 refine tP0 2 7 (bm 21 7) ?_
 refine tP0 4 9 (bm 21 23) ?_
 refine tP0 5 10 (bm 21 55) ?_
 refine tP0 6 11 (bm 21 119) ?_
 refine tP0 8 13 (bm 21 375) ?_
 refine tP0 9 14 (bm 21 887) ?_
 refine tP0 10 15 (bm 21 1911) ?_
 refine tP0 13 18 (bm 21 10103) ?_
 refine tP0 14 19 (bm 21 26487) ?_
 refine tP0 15 20 (bm 21 59255) ?_
 refine tT4 3 8 (bm 21 59263) ?_
 refine tT4 7 12 (bm 21 59391) ?_
 refine tT4 11 16 (bm 21 61439) ?_
 refine tT4 16 21 (bm 21 126975) ?_
 refine one_ (i := 12) (N := some 17) (bm 21 131071) rfl rfl (one_of HT_.out (by kernel_rfl)) (by decide) (fun K hK => ?_)
 refine goes_ Try.func64 (by kernel_rfl) rfl #[.slice A0_1 l0_1.length c0_1] (by rfl) rfl rfl tL ?_
 with_reducible refine (spec_l00Own.calls _ _ l0_1 t755 _ ?s1 ?s2 A3.out).mono ?_
 (case s1 => exact tC ((Kd.C_below HR0_1.out HB.out)))
 (case s2 => exact HC0_1.out)
 rintro e w8 ⟨v756, rfl, ho0, hb⟩
 refine ⟨_, rfl, ?_⟩
 have n0_ := Aq.mk (Kd.R_lower ho0 (bQZ tB))
 have n1_ := Aq.mk (tQ BK754.out hb)
 have n2_ := Aq.mk (bQT tB hb)
 clear BK754
 clear HB
 have HO757 := n0_
 have BK754 := n1_
 have HB := n2_
 clear n0_ n1_ n2_
 (try clear hb)
 (try clear hb2)
 (try clear hk)
 (try clear hi)
 (try clear ho0)
 refine hK.out _ _ ⟨(tcw tB (AtC.cell0 BK40.out _ rfl)), (tcw tB (AtC.cell BK40.out 1 _ (by decide) rfl)), (tcw tB (AtC.cell0 BK48.out _ rfl)), (tcw tB (AtC.cell BK48.out 1 _ (by decide) rfl))⟩ (fun hHeld => ?_)
 clear hK K
 refine tN 17 ?_
 refine one_ (i := 17) (N := some 22) (bm 21 262143) rfl rfl (one_of HT_.out (by kernel_rfl)) (by decide) (fun K hK => ?_)
 refine Kd.R_append_rows_step (Kd.int .i64) (w0 := w) w.heap.size (by rfl) (.tmp 17) (.tmp 21) 38 2 (.int .i64 0) 8 rfl Try.underlying38 info2 rfl (by decide) (by omega) v756 t755 l1_1 _ _ _ (fun _ => True) (fun _ => False) rfl rfl ?aO ?aR (fun _ _ h => h) (fun _ h => h.elim) ?aF ?aB ?aS ?aL ?_
 (case aR => exact tC ((Kd.C_below HR1_1.out HB.out)))
 (case aB => exact tB)
 (case aF => exact (fun _ _ => trivial))
 (case aO => exact (tR HO757.out))
 (case aS => exact (bQZ tB))
 (case aL => have := LMc4.out; omega)
 intro v759 w9 ho hb hg hat
 rw [← Ny758.out] at ho
 have n0_ := Aq.mk (blk_grown (g := gb754) (o := .cells #[.int .i64 0, .slice none 0 0] 63 (0, 0)) (tG BK754.out) hg (Kd.R_ne HO757.out BK754.out (by decide)))
 have n1_ := Aq.mk (hb)
 have n2_ := Aq.mk (ho)
 clear BK754
 clear HB
 clear HO757
 have BK754 := n0_
 have HB := n1_
 have HO760 := n2_
 clear n0_ n1_ n2_
 clear ho hb hg hat
 obtain ⟨Ao10, co10, eo10⟩ := Kd.R_slice HO760.out
 (first | subst eo10 | (injection eo10 with f1_ f2_ f3_; have f4_ := f1_.symm; have f5_ := f3_.symm; clear f1_ f2_ f3_; subst f4_; subst f5_))
 refine hK.out _ _ ⟨(tcw tB (AtC.cell0 BK40.out _ rfl)), (tcw tB (AtC.cell BK40.out 1 _ (by decide) rfl)), (tcw tB (AtC.cell0 BK48.out _ rfl)), (tcw tB (AtC.cell BK48.out 1 _ (by decide) rfl))⟩ (fun hHeld => ?_)
 clear hK K
 refine tN 22 ?_
 refine one_ (i := 18) (N := some 23) (bm 21 524287) rfl rfl (one_of HT_.out (by kernel_rfl)) (by decide) (fun K hK => ?_)
 refine goes_ Try.func83 (by kernel_rfl) rfl #[.int .i64 a0_0, .slice Ao10 y758.length co10] (by rfl) rfl rfl tL ?_
 with_reducible refine (spec_l02Echelon.calls k a0_0 _ _ y758 t761 _ ?s1 ?s2 A5.out).mono ?_
 (case s1 => exact tC ((Kd.R_reads' HO760.out).2.2))
 (case s2 => exact (Kd.R_reads' HO760.out).2.1)
 rintro e w11 ⟨v762, rfl, ho0, hb⟩
 refine ⟨_, rfl, ?_⟩
 have n0_ := Aq.mk (Kd.R_elder' (tR HO760.out) (Kd.R_base ho0) hb)
 have n1_ := Aq.mk (Kd.R_lower (Kd.R_new' ho0 (Kd.R_lt (tR HO760.out))) (bQZ tB))
 have n2_ := Aq.mk (tQ BK754.out hb)
 have n3_ := Aq.mk (bQT tB hb)
 clear HO760
 clear BK754
 clear HB
 have HO760 := n0_
 have HO763 := n1_
 have BK754 := n2_
 have HB := n3_
 clear n0_ n1_ n2_ n3_
 (try clear hb)
 (try clear hb2)
 (try clear hk)
 (try clear hi)
 (try clear ho0)
 obtain ⟨Ao12, co12, eo12⟩ := Kd.R_slice HO763.out
 (first | subst eo12 | (injection eo12 with f1_ f2_ f3_; have f4_ := f1_.symm; have f5_ := f3_.symm; clear f1_ f2_ f3_; subst f4_; subst f5_))
 refine hK.out _ _ ⟨(tcw tB (AtC.cell0 BK40.out _ rfl)), (tcw tB (AtC.cell BK40.out 1 _ (by decide) rfl)), (tcw tB (AtC.cell0 BK48.out _ rfl)), (tcw tB (AtC.cell BK48.out 1 _ (by decide) rfl))⟩ (fun hHeld => ?_)
 clear hK K
 refine tN 23 ?_
 refine tP0 19 24 (bm 21 1048575) ?_
 refine one_ (i := 20) (N := none) #[true, true, true, true, true, true, true, true, true, true, true, true, true, true, true, true, true, true, true, true, true] rfl rfl (one_of HT_.out (by kernel_rfl)) (by decide) (fun K hK => ?_)
 have hs13 : w11.cell? ⟨gb754, 0, none⟩ = some (.int .i64 0) := (kQC BK754.out 0).trans rfl
 have hfs13 := kQF BK754.out 0
 have hs14 : w11.cell? ⟨gb754, 1, none⟩ = some (.slice none 0 0) := (kQC BK754.out 1).trans rfl
 have hfs14 := kQF BK754.out 1
 refine skip_ (w1 := ?_) (by rfl) rfl ?_ ?_
 rotate_left
 ·go_simp
  rfl
 refine hK.out _ _ ⟨((cell_far (p := ⟨gb754, _, none⟩) (by first | exact AtC.ne BK40.out GW754.out | (rw [add_block]; exact AtC.ne BK40.out GW754.out) | (show (Addr.add _ _).block ≠ _; rw [add_block]; exact AtC.ne BK40.out GW754.out) | (dsimp only; exact AtC.ne BK40.out GW754.out)) _).trans (((cell_far (p := ⟨gb754, _, none⟩) (by first | exact AtC.ne BK40.out GW754.out | (rw [add_block]; exact AtC.ne BK40.out GW754.out) | (show (Addr.add _ _).block ≠ _; rw [add_block]; exact AtC.ne BK40.out GW754.out) | (dsimp only; exact AtC.ne BK40.out GW754.out)) _).trans (hHeld.1)))), ((cell_far (p := ⟨gb754, _, none⟩) (by first | exact AtC.ne BK40.out GW754.out | (rw [add_block]; exact AtC.ne BK40.out GW754.out) | (show (Addr.add _ _).block ≠ _; rw [add_block]; exact AtC.ne BK40.out GW754.out) | (dsimp only; exact AtC.ne BK40.out GW754.out)) _).trans (((cell_far (p := ⟨gb754, _, none⟩) (by first | exact AtC.ne BK40.out GW754.out | (rw [add_block]; exact AtC.ne BK40.out GW754.out) | (show (Addr.add _ _).block ≠ _; rw [add_block]; exact AtC.ne BK40.out GW754.out) | (dsimp only; exact AtC.ne BK40.out GW754.out)) _).trans (hHeld.2.1)))), ((cell_far (p := ⟨gb754, _, none⟩) (by first | exact AtC.ne BK48.out GW754.out | (rw [add_block]; exact AtC.ne BK48.out GW754.out) | (show (Addr.add _ _).block ≠ _; rw [add_block]; exact AtC.ne BK48.out GW754.out) | (dsimp only; exact AtC.ne BK48.out GW754.out)) _).trans (((cell_far (p := ⟨gb754, _, none⟩) (by first | exact AtC.ne BK48.out GW754.out | (rw [add_block]; exact AtC.ne BK48.out GW754.out) | (show (Addr.add _ _).block ≠ _; rw [add_block]; exact AtC.ne BK48.out GW754.out) | (dsimp only; exact AtC.ne BK48.out GW754.out)) _).trans (hHeld.2.2.1)))), ((cell_far (p := ⟨gb754, _, none⟩) (by first | exact AtC.ne BK48.out GW754.out | (rw [add_block]; exact AtC.ne BK48.out GW754.out) | (show (Addr.add _ _).block ≠ _; rw [add_block]; exact AtC.ne BK48.out GW754.out) | (dsimp only; exact AtC.ne BK48.out GW754.out)) _).trans (((cell_far (p := ⟨gb754, _, none⟩) (by first | exact AtC.ne BK48.out GW754.out | (rw [add_block]; exact AtC.ne BK48.out GW754.out) | (show (Addr.add _ _).block ≠ _; rw [add_block]; exact AtC.ne BK48.out GW754.out) | (dsimp only; exact AtC.ne BK48.out GW754.out)) _).trans (hHeld.2.2.2))))⟩ (fun hHeld => ?_)
 clear hK K
 refine done_ (done_of HT_.out (by kernel_rfl)) ?_
 try go_wp2
 refine bodyPost_ret (results_cell_row rfl _ _ gb754 63 #[.int .i64 a0_0, .slice Ao12 t761.length co12] (0, 0) _ rfl (by (with_reducible repeat (first | refine kQN ?_ _ | refine kQD ?_ | refine kQA ?_ _)); refine kQP (cs := #[.int .i64 a0_0, .slice none 0 0]) ?_ 1 _ rfl; (with_reducible repeat (first | refine kQN ?_ _ | refine kQD ?_ | refine kQA ?_ _)); refine kQP (cs := #[.int .i64 0, .slice none 0 0]) ?_ 0 _ rfl; (with_reducible repeat (first | refine kQN ?_ _ | refine kQD ?_ | refine kQA ?_ _)); exact BK754.out) Try.underlying63 rfl (by kernel_rfl)) rfl ?_
 exact ⟨_, tE, by (with_reducible repeat (first | apply Kd.RqA | apply Kd.RqN | apply Kd.RqD)); exact Kd.R_mono (Kd.R_far (p := ⟨gb754, 1, none⟩) (Kd.R_far (p := ⟨gb754, 0, none⟩) (Kd.R_types HO763.out BK754.out (by decide)) (fun _ hk => hk.2) (.int .i64 a0_0)) (fun _ hk => hk.2) (.slice Ao12 t761.length co12)) (fun _ hk => trivial), tB⟩
def spec_l02Distance.f (k : Nat) (a0_0 : Int) (l0_1 : List Int) (a1_0 : Int) (l1_1 : List Int) : Option (Int) := (spec_l02Sum.f k a0_0 l0_1 a1_0 l1_1).bind fun bt764 => (some (wrap64 ((wrap64 ((wrap64 (2 * (bt764.2.length : Int))) - (l0_1.length : Int))) - (l1_1.length : Int))))
theorem spec_l02Distance.mono : ∀ a0 a1 a2 a3 k, LeO (spec_l02Distance.f k a0 a1 a2 a3) (spec_l02Distance.f (k + 1) a0 a1 a2 a3) := by
 intro a0 a1 a2 a3 k
 unfold spec_l02Distance.f
 repeat' first
  | (with_reducible first | apply spec_l02Sum.mono | exact LeO.refl _ | exact LeO.none _ | refine LeO.ite ?_ ?_ | refine LeO.bind ?_ (fun _ => ?_))
  | exact LeO.none _
  | refine LeO.ite ?_ ?_
  | refine LeO.bind ?_ (fun _ => ?_)
theorem spec_l02Distance.calls (k : Nat) (g0_0 : Addr) (a0_0 : Int) (A0_1 : Option Addr) (c0_1 : Nat) (l0_1 : List Int) (g1_0 : Addr) (a1_0 : Int) (A1_1 : Option Addr) (c1_1 : Nat) (l1_1 : List Int) (r : Int) (w : World) (hr0_1 : Kd.C (Kd.int .i64) w A0_1 l0_1.length l0_1) (hc0_1 : l0_1.length ≤ c0_1) (hr1_1 : Kd.C (Kd.int .i64) w A1_1 l1_1.length l1_1) (hc1_1 : l1_1.length ≤ c1_1) (hb0_0 : AtC w g0_0 [.int .i64 a0_0, .slice A0_1 l0_1.length c0_1]) (hb1_0 : AtC w g1_0 [.int .i64 a1_0, .slice A1_1 l1_1.length c1_1]) (h : spec_l02Distance.f k a0_0 l0_1 a1_0 l1_1 = some r) :
 Calls Try.prog 58 #[.pointer (some g0_0), .pointer (some g1_0)] w fun e w' => e = .returned (.int .i64 r) ∧ Below w.heap.size w w' := by
 have hu63 := Try.underlying63
 have HR0_1 := Aq.mk hr0_1
 have HC0_1 := Aq.mk hc0_1
 clear hr0_1 hc0_1
 have HR1_1 := Aq.mk hr1_1
 have HC1_1 := Aq.mk hc1_1
 clear hr1_1 hc1_1
 have BK40 := Aq.mk hb0_0
 clear hb0_0
 have BK48 := Aq.mk hb1_0
 clear hb1_0
 have HB := Aq.mk (Below.refl w.heap.size w)
 have H : ((spec_l02Sum.f k a0_0 l0_1 a1_0 l1_1).bind fun bt764 => (some (wrap64 ((wrap64 ((wrap64 (2 * (bt764.2.length : Int))) - (l0_1.length : Int))) - (l1_1.length : Int))))) = some r := h
 clear h
 obtain ⟨⟨t764, t765⟩, A3, H⟩ := qBd H
 (try dsimp only at H)
 obtain rfl := Option.some.inj H
 go_enter Try.func58, Try.ntmps58
 go_wp2_with (first | (go_at_call 90; (with_reducible refine (spec_l02Sum.calls k (g0_0 : Addr) a0_0 A0_1 c0_1 l0_1 (g1_0 : Addr) a1_0 A1_1 c1_1 l1_1 t764 t765 _ ?s1 ?s2 ?s3 ?s4 ?s5 ?s6 A3.out).mono ?_); (case s1 => exact tC HR0_1.out); (case s2 => exact HC0_1.out); (case s3 => exact tC HR1_1.out); (case s4 => exact HC1_1.out); (case s5 => repeat (first | exact BK40.out | (with_reducible refine AtC.alloc ?_ _) | (with_reducible refine AtC.drewN ?_ _) | (with_reducible refine AtC.drew ?_))); (case s6 => repeat (first | exact BK48.out | (with_reducible refine AtC.alloc ?_ _) | (with_reducible refine AtC.drewN ?_ _) | (with_reducible refine AtC.drew ?_))); rintro e w4 ⟨v766, rfl, ho0, hb⟩; refine qM2 (Kd.R_lower ho0 (bQZ tB)) (bQT tB hb) ?_; clear HB; intro HO767 HB; (try clear hb); (try clear hb2); (try clear hk); (try clear hi); (try clear ho0)) | ((with_reducible refine gQd (N := 5) rfl ?_); refine xQe ?hg (N := 5) ?hd (cs := #[.int .i64 0, .slice none 0 0]) (t := 63) ?hr ?_; (case hd => rfl); (case hg => rfl); (case hr => exact tH); intro gb768 hg w5 hbox hb; refine qM5 (Kd.R_below (tR HO767.out) hb) (bQT tB hb) hbox (tZ w hg) (tZ w hg) ?_; clear HO767 HB; intro HO767 HB BK768 GW768 GE768; clear hb hbox hg; have hcz6_0 : w5.cell? ⟨gb768, 0, none⟩ = some (.int .i64 0) := (kQC BK768.out 0).trans rfl; have hcz6_1 : w5.cell? ⟨gb768, 1, none⟩ = some (.slice none 0 0) := (kQC BK768.out 1).trans rfl; have hfz6_0 := kQF BK768.out 0; have hfz6_1 := kQF BK768.out 1; obtain ⟨Ao7, co7, eo7⟩ := Kd.R_slice HO767.out; subst eo7; have hcz8_0 : w5.cell? g0_0 = some (.int .i64 a0_0) := AtC.cell0 (AtC.below BK40.out HB.out) _ rfl; have hcz8_1 : w5.cell? ⟨g0_0.block, g0_0.off + 1, none⟩ = some (.slice A0_1 l0_1.length c0_1) := AtC.cell (AtC.below BK40.out HB.out) 1 _ (by decide) rfl; have hnb9 := AtC.ne BK40.out GW768.out; have hnc9 := AtC.ne' BK40.out GW768.out; have hcz10_0 : w5.cell? g1_0 = some (.int .i64 a1_0) := AtC.cell0 (AtC.below BK48.out HB.out) _ rfl; have hcz10_1 : w5.cell? ⟨g1_0.block, g1_0.off + 1, none⟩ = some (.slice A1_1 l1_1.length c1_1) := AtC.cell (AtC.below BK48.out HB.out) 1 _ (by decide) rfl; have hnb11 := AtC.ne BK48.out GW768.out; have hnc11 := AtC.ne' BK48.out GW768.out))
 repeat (go_quiet (first | (go_at_call 90; (with_reducible refine (spec_l02Sum.calls k (g0_0 : Addr) a0_0 A0_1 c0_1 l0_1 (g1_0 : Addr) a1_0 A1_1 c1_1 l1_1 t764 t765 _ ?s1 ?s2 ?s3 ?s4 ?s5 ?s6 A3.out).mono ?_); (case s1 => exact tC HR0_1.out); (case s2 => exact HC0_1.out); (case s3 => exact tC HR1_1.out); (case s4 => exact HC1_1.out); (case s5 => repeat (first | exact BK40.out | (with_reducible refine AtC.alloc ?_ _) | (with_reducible refine AtC.drewN ?_ _) | (with_reducible refine AtC.drew ?_))); (case s6 => repeat (first | exact BK48.out | (with_reducible refine AtC.alloc ?_ _) | (with_reducible refine AtC.drewN ?_ _) | (with_reducible refine AtC.drew ?_))); rintro e w4 ⟨v766, rfl, ho0, hb⟩; refine qM2 (Kd.R_lower ho0 (bQZ tB)) (bQT tB hb) ?_; clear HB; intro HO767 HB; (try clear hb); (try clear hb2); (try clear hk); (try clear hi); (try clear ho0)) | ((with_reducible refine gQd (N := 5) rfl ?_); refine xQe ?hg (N := 5) ?hd (cs := #[.int .i64 0, .slice none 0 0]) (t := 63) ?hr ?_; (case hd => rfl); (case hg => rfl); (case hr => exact tH); intro gb768 hg w5 hbox hb; refine qM5 (Kd.R_below (tR HO767.out) hb) (bQT tB hb) hbox (tZ w hg) (tZ w hg) ?_; clear HO767 HB; intro HO767 HB BK768 GW768 GE768; clear hb hbox hg; have hcz6_0 : w5.cell? ⟨gb768, 0, none⟩ = some (.int .i64 0) := (kQC BK768.out 0).trans rfl; have hcz6_1 : w5.cell? ⟨gb768, 1, none⟩ = some (.slice none 0 0) := (kQC BK768.out 1).trans rfl; have hfz6_0 := kQF BK768.out 0; have hfz6_1 := kQF BK768.out 1; obtain ⟨Ao7, co7, eo7⟩ := Kd.R_slice HO767.out; subst eo7; have hcz8_0 : w5.cell? g0_0 = some (.int .i64 a0_0) := AtC.cell0 (AtC.below BK40.out HB.out) _ rfl; have hcz8_1 : w5.cell? ⟨g0_0.block, g0_0.off + 1, none⟩ = some (.slice A0_1 l0_1.length c0_1) := AtC.cell (AtC.below BK40.out HB.out) 1 _ (by decide) rfl; have hnb9 := AtC.ne BK40.out GW768.out; have hnc9 := AtC.ne' BK40.out GW768.out; have hcz10_0 : w5.cell? g1_0 = some (.int .i64 a1_0) := AtC.cell0 (AtC.below BK48.out HB.out) _ rfl; have hcz10_1 : w5.cell? ⟨g1_0.block, g1_0.off + 1, none⟩ = some (.slice A1_1 l1_1.length c1_1) := AtC.cell (AtC.below BK48.out HB.out) 1 _ (by decide) rfl; have hnb11 := AtC.ne BK48.out GW768.out; have hnc11 := AtC.ne' BK48.out GW768.out)); try go_wp2_with (first | (go_at_call 90; (with_reducible refine (spec_l02Sum.calls k (g0_0 : Addr) a0_0 A0_1 c0_1 l0_1 (g1_0 : Addr) a1_0 A1_1 c1_1 l1_1 t764 t765 _ ?s1 ?s2 ?s3 ?s4 ?s5 ?s6 A3.out).mono ?_); (case s1 => repeat (first | exact HR0_1.out)); (case s2 => exact HC0_1.out); (case s3 => exact tC HR1_1.out); (case s4 => exact HC1_1.out); (case s5 => repeat (first | exact BK40.out | (with_reducible refine AtC.alloc ?_ _) | (with_reducible refine AtC.drewN ?_ _) | (with_reducible refine AtC.drew ?_))); (case s6 => repeat (first | exact BK48.out | (with_reducible refine AtC.alloc ?_ _) | (with_reducible refine AtC.drewN ?_ _) | (with_reducible refine AtC.drew ?_))); rintro e w4 ⟨v766, rfl, ho0, hb⟩; refine qM2 (Kd.R_lower ho0 (bQZ tB)) (bQT tB hb) ?_; clear HB; intro HO767 HB; (try clear hb); (try clear hb2); (try clear hk); (try clear hi); (try clear ho0)) | ((with_reducible refine gQd (N := 5) rfl ?_); refine xQe ?hg (N := 5) ?hd (cs := #[.int .i64 0, .slice none 0 0]) (t := 63) ?hr ?_; (case hd => rfl); (case hg => rfl); (case hr => exact tH); intro gb768 hg w5 hbox hb; refine qM5 (Kd.R_below (tR HO767.out) hb) (bQT tB hb) hbox (tZ w hg) (tZ w hg) ?_; clear HO767 HB; intro HO767 HB BK768 GW768 GE768; clear hb hbox hg; have hcz6_0 : w5.cell? ⟨gb768, 0, none⟩ = some (.int .i64 0) := (kQC BK768.out 0).trans rfl; have hcz6_1 : w5.cell? ⟨gb768, 1, none⟩ = some (.slice none 0 0) := (kQC BK768.out 1).trans rfl; have hfz6_0 := kQF BK768.out 0; have hfz6_1 := kQF BK768.out 1; obtain ⟨Ao7, co7, eo7⟩ := Kd.R_slice HO767.out; subst eo7; have hcz8_0 : w5.cell? g0_0 = some (.int .i64 a0_0) := AtC.cell0 (AtC.below BK40.out HB.out) _ rfl; have hcz8_1 : w5.cell? ⟨g0_0.block, g0_0.off + 1, none⟩ = some (.slice A0_1 l0_1.length c0_1) := AtC.cell (AtC.below BK40.out HB.out) 1 _ (by decide) rfl; have hnb9 := AtC.ne BK40.out GW768.out; have hnc9 := AtC.ne' BK40.out GW768.out; have hcz10_0 : w5.cell? g1_0 = some (.int .i64 a1_0) := AtC.cell0 (AtC.below BK48.out HB.out) _ rfl; have hcz10_1 : w5.cell? ⟨g1_0.block, g1_0.off + 1, none⟩ = some (.slice A1_1 l1_1.length c1_1) := AtC.cell (AtC.below BK48.out HB.out) 1 _ (by decide) rfl; have hnb11 := AtC.ne BK48.out GW768.out; have hnc11 := AtC.ne' BK48.out GW768.out)))
 go_ret
 exact ⟨tE, tB⟩
end Go.Proofs.Ytbalkaphibnpcaa.P
