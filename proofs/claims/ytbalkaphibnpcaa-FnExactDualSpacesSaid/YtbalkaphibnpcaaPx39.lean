/- Functions of the program and what they tell, as the printing program wrote it. -/
import Derived.Test.YtbalkaphibnpcaaPx0
import Derived.Test.YtbalkaphibnpcaaPx23
namespace Go.Proofs.Ytbalkaphibnpcaa.P
open Go.Shelf Go.RowKit Go.Proofs.YtbalkaphibnpcaaW.PrintWords Go.Proofs.YtbalkaphibnpcaaW.PrintLast Go.Proofs.YtbalkaphibnpcaaW.PrintMore
attribute [local go_sem] max2_int min2_int max_two min_two max_three min_three max_four min_four
set_option linter.unusedVariables false
set_option linter.unusedSimpArgs false
set_option maxHeartbeats 8000000
set_option maxRecDepth 100000
def impl_Matrix_form.f (k : Nat) (a0_0 : Int) (l0_1 : List Int) : Option (Int × List Int) := (impl_echelon.f k l0_1).bind fun t679 => (some (a0_0, t679))
theorem impl_Matrix_form.mono : ∀ a0 a1 k, LeO (impl_Matrix_form.f k a0 a1) (impl_Matrix_form.f (k + 1) a0 a1) := by
 intro a0 a1 k
 unfold impl_Matrix_form.f
 repeat' first
  | (with_reducible first | apply impl_echelon.mono | exact LeO.refl _ | exact LeO.none _ | refine LeO.ite ?_ ?_ | refine LeO.bind ?_ (fun _ => ?_))
  | exact LeO.none _
  | refine LeO.ite ?_ ?_
  | refine LeO.bind ?_ (fun _ => ?_)
theorem impl_Matrix_form.calls (k : Nat) (a0_0 : Int) (A0_1 : Option Addr) (c0_1 : Nat) (l0_1 : List Int) (r1 : Int) (r2 : List Int) (w : World) (hr0_1 : Kd.C (Kd.int .i64) w A0_1 l0_1.length l0_1) (hc0_1 : l0_1.length ≤ c0_1) (h : impl_Matrix_form.f k a0_0 l0_1 = some (r1, r2)) :
 Calls Try.prog 88 #[.agg #[.int .i64 a0_0, .slice A0_1 l0_1.length c0_1]] w fun e w' => ∃ v1_ : Value, e = .returned (.agg #[.int .i64 r1, v1_]) ∧ Kd.R (Kd.int .i64) 2 w' w.heap.size (fun _ => True) v1_ r2 ∧ Below w.heap.size w w' := by
 have hu63 := Try.underlying63
 have HR0_1 := Aq.mk hr0_1
 have HC0_1 := Aq.mk hc0_1
 clear hr0_1 hc0_1
 have HB := Aq.mk (Below.refl w.heap.size w)
 have H : ((impl_echelon.f k l0_1).bind fun t679 => (some (a0_0, t679))) = some (r1, r2) := h
 clear h
 obtain ⟨t679, A2, H⟩ := qBd H
 simp only [Option.some.injEq, Prod.mk.injEq] at H
 obtain ⟨rfl, rfl⟩ := H
 go_enter Try.func88, Try.ntmps88
 try go_wp2_with (first | ((with_reducible refine gQd (N := 1) rfl ?_); refine xQe ?hg (N := 1) ?hd (cs := #[.int .i64 a0_0, .slice A0_1 l0_1.length c0_1]) (t := 63) ?hr ?_; (case hd => rfl); (case hg => rfl); (case hr => exact tH); intro gb677 hg w3 hbox hb; refine qM4 (bQT tB hb) hbox (tZ w hg) (tZ w hg) ?_; clear HB; intro HB BK677 GW677 GE677; clear hb hbox hg) | ((with_reducible refine gQd (N := 2) rfl ?_); refine xQe ?hg (N := 2) ?hd (cs := #[.int .i64 0, .slice none 0 0]) (t := 63) ?hr ?_; (case hd => rfl); (case hg => rfl); (case hr => exact tH); intro gb678 hg w4 hbox hb; refine qM7 (tQ BK677.out hb) (bQT tB hb) hbox (tZ w hg) (tZ w hg) ((by rw [hg]; exact Nat.ne_of_lt (blk_lt (g := gb677) (o := .cells #[.int .i64 a0_0, .slice A0_1 l0_1.length c0_1] 63 (0, 0)) (tG BK677.out)) : gb677 ≠ gb678)) ((by rw [hg]; exact Nat.ne_of_gt (blk_lt (g := gb677) (o := .cells #[.int .i64 a0_0, .slice A0_1 l0_1.length c0_1] 63 (0, 0)) (tG BK677.out)) : gb678 ≠ gb677)) ?_; clear BK677 HB; intro BK677 HB BK678 GW678 GE678 NB677_678 NB678_677; clear hb hbox hg))
 have n0_ := Aq.mk (kQD BK677.out)
 have n1_ := Aq.mk (kQD BK678.out)
 have n2_ := Aq.mk (bQ1 HB.out)
 clear BK677
 clear BK678
 clear HB
 have BK677 := n0_
 have BK678 := n1_
 have HB := n2_
 clear n0_ n1_ n2_
 refine start_ (n := 7) (S := fun w' => w'.cell? ⟨gb677, 0, none⟩ = some (.int .i64 a0_0) ∧ w'.cell? ⟨gb677, 1, none⟩ = some (.slice A0_1 l0_1.length c0_1)) (ds := []) #[false, false, false, false, false, false, false] (by kernel_rfl) rfl rfl ⟨(kQC BK677.out 0).trans rfl, (kQC BK677.out 1).trans rfl⟩ (fun hHeld => ?_)
 generalize w4.drew = w5 at BK677 BK678 HB hHeld ⊢
 refine tP0k 0 3 (bm 7 1) ?_
 refine tP0k 2 5 (bm 7 5) ?_
 refine tT2k 1 4 (bm 7 7) ?_
 refine tT2k 3 6 (bm 7 15) ?_
 refine one_ (i := 4) (N := some 7) (bm 7 31) rfl rfl (by kernel_rfl) (by decide) (fun K hK => ?_)
 refine goes_ Try.func86 (by kernel_rfl) rfl #[.slice A0_1 l0_1.length c0_1] (by rfl) rfl rfl tL ?_
 with_reducible refine (impl_echelon.calls k _ _ l0_1 t679 _ ?s1 ?s2 A2.out).mono ?_
 (case s1 => exact tC ((Kd.C_below HR0_1.out HB.out)))
 (case s2 => exact HC0_1.out)
 rintro e w6 ⟨v680, rfl, ho0, hb⟩
 refine ⟨_, rfl, ?_⟩
 have n0_ := Aq.mk (Kd.R_lower ho0 (bQZ tB))
 have n1_ := Aq.mk (tQ BK677.out hb)
 have n2_ := Aq.mk (tQ BK678.out hb)
 have n3_ := Aq.mk (bQT tB hb)
 clear BK677
 clear BK678
 clear HB
 have HO681 := n0_
 have BK677 := n1_
 have BK678 := n2_
 have HB := n3_
 clear n0_ n1_ n2_ n3_
 (try clear hb)
 (try clear hb2)
 (try clear hk)
 (try clear hi)
 (try clear ho0)
 obtain ⟨Ao7, co7, eo7⟩ := Kd.R_slice HO681.out
 (first | subst eo7 | (injection eo7 with f1_ f2_ f3_; have f4_ := f1_.symm; have f5_ := f3_.symm; clear f1_ f2_ f3_; subst f4_; subst f5_))
 refine hK.out _ _ ⟨(kQC BK677.out 0).trans rfl, (kQC BK677.out 1).trans rfl⟩ (fun hHeld => ?_)
 clear hK K
 refine tN 7 ?_
 refine tP0k 5 8 (bm 7 63) ?_
 refine one_ (i := 6) (N := none) #[true, true, true, true, true, true, true] rfl rfl (by kernel_rfl) (by decide) (fun K hK => ?_)
 have hs8 : w6.cell? ⟨gb678, 0, none⟩ = some (.int .i64 0) := (kQC BK678.out 0).trans rfl
 have hfs8 := kQF BK678.out 0
 have hns8_0 := NB677_678.out
 have hms8_0 := NB678_677.out
 have hs9 : w6.cell? ⟨gb678, 1, none⟩ = some (.slice none 0 0) := (kQC BK678.out 1).trans rfl
 have hfs9 := kQF BK678.out 1
 have hns9_0 := NB677_678.out
 have hms9_0 := NB678_677.out
 refine skip_ (w1 := ?_) (by rfl) rfl ?_ ?_
 rotate_left
 ·go_simp
  rfl
 refine hK.out _ _ ⟨((cell_far (p := ⟨gb678, _, none⟩) NB677_678.out _).trans (((cell_far (p := ⟨gb678, _, none⟩) NB677_678.out _).trans (hHeld.1)))), ((cell_far (p := ⟨gb678, _, none⟩) NB677_678.out _).trans (((cell_far (p := ⟨gb678, _, none⟩) NB677_678.out _).trans (hHeld.2))))⟩ (fun hHeld => ?_)
 clear hK K
 refine done_ (by kernel_rfl) ?_
 try go_wp2
 refine bodyPost_ret (results_cell_row rfl _ _ gb678 63 #[.int .i64 a0_0, .slice Ao7 t679.length co7] (0, 0) _ rfl (by (with_reducible repeat (first | refine kQN ?_ _ | refine kQD ?_ | refine kQA ?_ _)); refine kQP (cs := #[.int .i64 a0_0, .slice none 0 0]) ?_ 1 _ rfl; (with_reducible repeat (first | refine kQN ?_ _ | refine kQD ?_ | refine kQA ?_ _)); refine kQP (cs := #[.int .i64 0, .slice none 0 0]) ?_ 0 _ rfl; (with_reducible repeat (first | refine kQN ?_ _ | refine kQD ?_ | refine kQA ?_ _)); exact BK678.out) Try.underlying63 rfl (by kernel_rfl)) rfl ?_
 exact ⟨_, tE, by (with_reducible repeat (first | apply Kd.RqA | apply Kd.RqN | apply Kd.RqD)); exact Kd.R_mono (Kd.R_far (p := ⟨gb678, 1, none⟩) (Kd.R_far (p := ⟨gb678, 0, none⟩) (Kd.R_types HO681.out BK678.out (by decide)) (fun _ hk => hk.2) (.int .i64 a0_0)) (fun _ hk => hk.2) (.slice Ao7 t679.length co7)) (fun _ hk => trivial), tB⟩
end Go.Proofs.Ytbalkaphibnpcaa.P
