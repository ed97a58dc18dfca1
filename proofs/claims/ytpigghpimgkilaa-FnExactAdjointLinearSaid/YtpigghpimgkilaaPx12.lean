/- Functions of the program and what they tell, as the printing program wrote it. -/
import Derived.Test.YtpigghpimgkilaaPx0
import Derived.Test.YtpigghpimgkilaaPx4
import Derived.Test.YtpigghpimgkilaaPx5
import Derived.Test.YtpigghpimgkilaaPx7
import Derived.Test.YtpigghpimgkilaaPx11
namespace Go.Proofs.Ytpigghpimgkilaa.P
open Go.Shelf Go.RowKit Go.Proofs.YtpigghpimgkilaaW.PrintWords Go.Proofs.YtpigghpimgkilaaW.PrintLast Go.Proofs.YtpigghpimgkilaaW.PrintMore
attribute [local go_sem] max2_int min2_int max_two min_two max_three min_three max_four min_four
set_option linter.unusedVariables false
set_option linter.unusedSimpArgs false
set_option maxHeartbeats 8000000
set_option maxRecDepth 100000
def impl_Field_root.f (k : Nat) (a0_0 : Int) (a0_1 : Int) (a1 : Int) (a2 : Int) : Option (Int) := if a0_0 = 0 then (none) else ((impl_Field_square.f k a0_0 a0_1 a1 (Int.tmod (wrap64 (a0_0 - (Int.tmod a2 a0_0))) a0_0)).bind fun t226 => (some t226))
theorem impl_Field_root.mono : ∀ a0 a1 a2 a3 k, LeO (impl_Field_root.f k a0 a1 a2 a3) (impl_Field_root.f (k + 1) a0 a1 a2 a3) := by
 intro a0 a1 a2 a3 k
 unfold impl_Field_root.f
 repeat' first
  | (with_reducible first | apply impl_Field_square.mono | exact LeO.refl _ | exact LeO.none _ | refine LeO.ite ?_ ?_ | refine LeO.bind ?_ (fun _ => ?_))
  | exact LeO.none _
  | refine LeO.ite ?_ ?_
  | refine LeO.bind ?_ (fun _ => ?_)
def impl_Field_root.T1 : Bool × List (List Nat × List Nat) := (true, [([], []), ([], []), ([], []), ([2], [2]), ([], []), ([], []), ([5], [5]), ([4, 6], [4, 6]), ([3, 7], [3, 7]), ([], []), ([9], [9]), ([8, 10], [8, 10]), ([0, 1, 11], [0, 1, 11]), ([12, 12, 0, 1, 2, 3, 4, 5, 6, 7, 8, 9, 10, 11, 12], [12])])
def impl_Field_root.B1 : List Nat := [0, 0, 0, 4, 0, 0, 32, 112, 252, 0, 512, 2044, 4095, 8191]
theorem impl_Field_root.tab1 : rtab .any (opsOf Try.f30 1) = impl_Field_root.T1 := by kernel_rfl
theorem impl_Field_root.bits1 : waitsOk impl_Field_root.T1.2 impl_Field_root.B1 = true := by kernel_rfl
theorem impl_Field_root.calls (k : Nat) (a0_0 : Int) (a0_1 : Int) (a1 : Int) (a2 : Int) (r : Int) (w : World) (h : impl_Field_root.f k a0_0 a0_1 a1 a2 = some r) :
 Calls Try.prog 30 #[.agg #[.int .i64 a0_0, .int .i64 a0_1], .int .i64 a1, .int .i64 a2] w fun e w' => e = .returned (.int .i64 r) ∧ Below w.heap.size w w' := by
 have hu27 := Try.underlying27
 have HB := Aq.mk (Below.refl w.heap.size w)
 have H : (if a0_0 = 0 then (none) else ((impl_Field_square.f k a0_0 a0_1 a1 (Int.tmod (wrap64 (a0_0 - (Int.tmod a2 a0_0))) a0_0)).bind fun t226 => (some t226))) = some r := h
 clear h
 by_cases c4 : a0_0 = 0
 ·rw [if_pos c4] at H
  exact absurd H (by simp)
 rw [if_neg c4] at H
 have c4b0 := beq_eq_false_iff_ne.mpr c4
 have c4b1 := bne_iff_ne.mpr c4
 obtain ⟨t226, A5, H⟩ := qBd H
 obtain rfl := Option.some.inj H
 go_enter Try.func30, Try.ntmps30
 try go_wp2_with (first | ((with_reducible refine gQd (N := 3) rfl ?_); refine xQe ?hg (N := 3) ?hd (cs := #[.int .i64 a0_0, .int .i64 a0_1]) (t := 27) ?hr ?_; (case hd => rfl); (case hg => rfl); (case hr => exact tH); intro gb225 hg w6 hbox hb; refine qM4 (bQT tB hb) hbox (tZ w hg) (tZ w hg) ?_; clear HB; intro HB BK225 GW225 GE225; clear hb hbox hg))
 have n0_ := Aq.mk (kQD BK225.out)
 have n1_ := Aq.mk (bQ1 HB.out)
 clear BK225
 clear HB
 have BK225 := n0_
 have HB := n1_
 clear n0_ n1_
 refine start_ (n := 14) (S := fun w' => w'.cell? ⟨gb225, 0, none⟩ = some (.int .i64 a0_0) ∧ w'.cell? ⟨gb225, 1, none⟩ = some (.int .i64 a0_1)) (ds := []) #[false, false, false, false, false, false, false, false, false, false, false, false, false, false] (by kernel_rfl) rfl rfl ⟨(kQC BK225.out 0).trans rfl, (kQC BK225.out 1).trans rfl⟩ (fun hHeld => ?_); refine with_tabW impl_Field_root.tab1 impl_Field_root.bits1 (fun HT_ HW_ => ?_)
 generalize w6.drew = w7 at BK225 HB hHeld ⊢
 refine tP0 1 8 (bm 14 2) ?_
 refine tP0 2 9 (bm 14 6) ?_
 refine tP0 4 11 (bm 14 22) ?_
 refine tP0 5 12 (bm 14 54) ?_
 refine tP0 9 16 (bm 14 566) ?_
 refine tT2 0 7 (bm 14 567) ?_
 refine tT2 3 10 (bm 14 575) ?_
 refine tT2 6 13 (bm 14 639) ?_
 refine tP0 7 14 (bm 14 767) ?_
 refine tP0 8 15 (bm 14 1023) ?_
 refine tT2 10 17 (bm 14 2047) ?_
 refine tP0 11 18 (bm 14 4095) ?_
 refine one_ (i := 12) (N := some 19) (bm 14 8191) rfl rfl (one_of HT_.out (by kernel_rfl)) (by decide) (fun K hK => ?_)
 refine goes_ Try.func56 (by kernel_rfl) rfl #[.agg #[.int .i64 a0_0, .int .i64 a0_1], .int .i64 a1, .int .i64 (Int.tmod (wrap64 (a0_0 - (Int.tmod a2 a0_0))) a0_0)] (by rfl) rfl rfl tL ?_
 with_reducible refine (impl_Field_square.calls k a0_0 a0_1 a1 (Int.tmod (wrap64 (a0_0 - (Int.tmod a2 a0_0))) a0_0) t226 _ A5.out).mono ?_
 rintro e w8 ⟨rfl, hb⟩
 refine ⟨_, rfl, ?_⟩
 have n0_ := Aq.mk (tQ BK225.out hb)
 have n1_ := Aq.mk (bQT tB hb)
 clear BK225
 clear HB
 have BK225 := n0_
 have HB := n1_
 clear n0_ n1_
 (try clear hb)
 (try clear hb2)
 (try clear hk)
 (try clear hi)
 refine hK.out _ _ ⟨(kQC BK225.out 0).trans rfl, (kQC BK225.out 1).trans rfl⟩ (fun hHeld => ?_)
 clear hK K
 refine tN 19 ?_
 refine tP0 13 6 (bm 14 16383) ?_
 refine done_ (done_of HT_.out (by kernel_rfl)) ?_
 try go_wp2
 go_ret
 exact ⟨tE, tB⟩
def impl_AdjointLinear.l0 : Nat → List Int → List Int → Int → Int → Int → Int → Option (List Int × Int)
  | 0, _, _, _, _, _, _ => none
  | k + 1, x7, x22, x23, x24, x228000, x228001 => if x24 < x23 then (if 0 ≤ x24 then (if x24 < (x22.length : Int) then (if x228000 = 0 then (none) else (if 0 ≤ (Int.tmod (wrap64 (x228000 - x24)) x228000) then (if (Int.tmod (wrap64 (x228000 - x24)) x228000) < (x7.length : Int) then ((impl_Field_root.f k x228000 x228001 (rd x22 x24) x24).bind fun t240 => (impl_AdjointLinear.l0 k (x7.set ((Int.tmod (wrap64 (x228000 - x24)) x228000) : Int).toNat (Go.bits .xor .i64 (rd x7 (Int.tmod (wrap64 (x228000 - x24)) x228000)) t240)) x22 x23 (wrap64 (x24 + 1)) x228000 x228001)) else (none)) else (none))) else (none)) else (none)) else ((impl_trim.f k x7).bind fun t242 => (some (t242, 0)))
def impl_AdjointLinear.f (k : Nat) (a0_0 : Int) (a0_1 : Int) (l1 : List Int) : Option (List Int × Int) := (impl_Field_linearCode.f k a0_0 a0_1 (([l1] : List (List Int)))).bind fun t231 => (if t231 = 0 then (if 0 ≤ a0_0 then (if (a0_0 : Int).toNat ≤ 35184372088832 then ((impl_Field_fold.f k a0_0 a0_1 l1).bind fun t235 => (impl_AdjointLinear.l0 k (List.replicate (a0_0 : Int).toNat 0) t235 (t235.length : Int) 0 a0_0 a0_1)) else (none)) else (none)) else (some (([] : List Int), t231)))
theorem impl_AdjointLinear.mono_l : ∀ k, (∀ y0 y1 y2 y3 y4 y5, LeO (impl_AdjointLinear.l0 k y0 y1 y2 y3 y4 y5) (impl_AdjointLinear.l0 (k + 1) y0 y1 y2 y3 y4 y5))
 | 0 => fun _ _ _ _ _ _ r h => by simp [impl_AdjointLinear.l0] at h
 | k + 1 => by
  have ih0 := impl_AdjointLinear.mono_l k
  ·intro y0 y1 y2 y3 y4 y5
   unfold impl_AdjointLinear.l0
   repeat' first
   | (with_reducible first | apply ih0 | apply impl_Field_fold.mono | apply impl_Field_linearCode.mono | apply impl_Field_root.mono | apply impl_trim.mono | exact LeO.refl _ | exact LeO.none _ | refine LeO.ite ?_ ?_ | refine LeO.bind ?_ (fun _ => ?_))
   | exact LeO.none _
   | refine LeO.ite ?_ ?_
   | refine LeO.bind ?_ (fun _ => ?_)
theorem impl_AdjointLinear.mono : ∀ a0 a1 a2 k, LeO (impl_AdjointLinear.f k a0 a1 a2) (impl_AdjointLinear.f (k + 1) a0 a1 a2) := by
 intro a0 a1 a2 k
 have ih0 := impl_AdjointLinear.mono_l k
 unfold impl_AdjointLinear.f
 repeat' first
  | (with_reducible first | apply ih0 | apply impl_Field_fold.mono | apply impl_Field_linearCode.mono | apply impl_Field_root.mono | apply impl_trim.mono | exact LeO.refl _ | exact LeO.none _ | refine LeO.ite ?_ ?_ | refine LeO.bind ?_ (fun _ => ?_))
  | exact LeO.none _
  | refine LeO.ite ?_ ?_
  | refine LeO.bind ?_ (fun _ => ?_)
def impl_AdjointLinear.T8 : Bool × List (List Nat × List Nat) := (true, [([], []), ([], []), ([1], [1]), ([], []), ([2, 3], [2, 3]), ([], []), ([5], [5]), ([4, 6], [4, 6]), ([0, 7], [0, 7]), ([8], [8]), ([], []), ([], []), ([], []), ([10, 11, 12], [10, 11, 12]), ([9, 13], [9, 13]), ([0, 7, 0, 1, 2, 3, 4, 5, 6, 7, 8, 9, 10, 11, 12, 13, 14], [0, 7]), ([15, 14, 13, 0, 1, 2, 3, 4, 5, 6, 7, 8, 9, 10, 11, 12, 13, 14], [14, 15])])
def impl_AdjointLinear.B8 : List Nat := [0, 0, 2, 0, 14, 0, 32, 126, 255, 511, 0, 0, 0, 7168, 16383, 32767, 65535]
theorem impl_AdjointLinear.tab8 : rtab .any (opsOf Try.f10 8) = impl_AdjointLinear.T8 := by kernel_rfl
theorem impl_AdjointLinear.bits8 : waitsOk impl_AdjointLinear.T8.2 impl_AdjointLinear.B8 = true := by kernel_rfl
theorem impl_AdjointLinear.calls (k : Nat) (a0_0 : Int) (a0_1 : Int) (P1_ : Nat → Prop) (A1 : Option Addr) (c1 : Nat) (l1 : List Int) (r1 : List Int) (r2 : Int) (w : World) (hs1 : Kd.V (Kd.int .i64) 2 w w.heap.size (fun k_ => P1_ k_) (.slice A1 l1.length c1) l1) (h : impl_AdjointLinear.f k a0_0 a0_1 l1 = some (r1, r2)) :
 Calls Try.prog 10 #[.agg #[.int .i64 a0_0, .int .i64 a0_1], .slice A1 l1.length c1] w fun e w' => ∃ v0_ : Value, e = .returned (.tuple #[v0_, .int .i64 r2]) ∧ Kd.R (Kd.int .i64) 2 w' w.heap.size (fun k_ => (w.heap.size ≤ k_)) v0_ r1 ∧ Below w.heap.size w w' := by
 have hu27 := Try.underlying27
 have HO1 := Aq.mk (show Kd.V (Kd.int .i64) 2 w w.heap.size (fun k_ => (P1_ k_ ∨ w.heap.size ≤ k_)) (.slice A1 l1.length c1) l1 from Kd.V_mono hs1 (fun k_ hk => .inl hk))
 have HB := Aq.mk (Below.refl w.heap.size w)
 have H : ((impl_Field_linearCode.f k a0_0 a0_1 (([l1] : List (List Int)))).bind fun t231 => (if t231 = 0 then (if 0 ≤ a0_0 then (if (a0_0 : Int).toNat ≤ 35184372088832 then ((impl_Field_fold.f k a0_0 a0_1 l1).bind fun t235 => (impl_AdjointLinear.l0 k (List.replicate (a0_0 : Int).toNat 0) t235 (t235.length : Int) 0 a0_0 a0_1)) else (none)) else (none)) else (some (([] : List Int), t231)))) = some (r1, r2) := h
 clear h
 obtain ⟨y228, hy228⟩ : ∃ y_ : List (List Int), y_ = (([l1] : List (List Int))) := ⟨_, rfl⟩
 replace H : ((impl_Field_linearCode.f k a0_0 a0_1 y228).bind fun t231 => (if t231 = 0 then (if 0 ≤ a0_0 then (if (a0_0 : Int).toNat ≤ 35184372088832 then ((impl_Field_fold.f k a0_0 a0_1 l1).bind fun t235 => (impl_AdjointLinear.l0 k (List.replicate (a0_0 : Int).toNat 0) t235 (t235.length : Int) 0 a0_0 a0_1)) else (none)) else (none)) else (some (([] : List Int), t231)))) = some (r1, r2) := by first | (rw [hy228]; with_reducible exact H) | (have H2_ := (Option.bind_some _ _).symm.trans H; rw [hy228]; with_reducible exact H2_) | (have H2_ := (Option.bind_some _ _).symm.trans H; with_reducible exact H2_) | with_reducible exact H | (rw [hy228]; exact H) | exact H
 have Ny228 := Aq.mk hy228
 clear hy228
 obtain ⟨t231, A3, H⟩ := qBd H
 by_cases c4 : t231 = 0
 rotate_left
 ·rw [if_neg c4] at H
  have c4b0 := beq_eq_false_iff_ne.mpr c4
  have c4b1 := bne_iff_ne.mpr c4
  simp only [Option.some.injEq, Prod.mk.injEq] at H
  obtain ⟨rfl, rfl⟩ := H
  go_enter Try.func10, Try.ntmps10
  go_wp2_with (first | ((with_reducible refine gQd (N := 2) rfl ?_); refine xQe ?hg (N := 2) ?hd (cs := #[.int .i64 a0_0, .int .i64 a0_1]) (t := 27) ?hr ?_; (case hd => rfl); (case hg => rfl); (case hr => exact tH); intro gb227 hg w36 hbox hb; refine qM5 (Kd.V_below (Kd.V_elderB (by (with_reducible repeat (first | apply Kd.V_alloc | apply Kd.V_drewN | apply Kd.V_drew)); exact HO1.out) gb227 (Nat.le_of_eq hg.symm)) hb) (bQT tB hb) hbox (tZ w hg) (tZ w hg) ?_; clear HO1 HB; intro HO1 HB BK227 GW227 GE227; clear hb hbox hg; have hcz37_0 : w36.cell? ⟨gb227, 0, none⟩ = some (.int .i64 a0_0) := (kQC BK227.out 0).trans rfl; have hcz37_1 : w36.cell? ⟨gb227, 1, none⟩ = some (.int .i64 a0_1) := (kQC BK227.out 1).trans rfl; have hfz37_0 := kQF BK227.out 0; have hfz37_1 := kQF BK227.out 1) | ((with_reducible refine gQd (N := 12) rfl ?_); refine Kd.N_lit (Kd.slice 2 (Kd.int .i64)) _ 24 ?hg (N' := 12) ?hd (xs := ([l1] : List (List Int))) (inner := [.slice A1 l1.length c1]) (ok := (fun k_ => (P1_ k_ ∨ w.heap.size ≤ k_) ∧ k_ ≠ gb227)) (okp := (fun k_ => (P1_ k_ ∨ w.heap.size ≤ k_) ∧ k_ ≠ gb227)) ?hr ?hp (fun _ hk => hk) ((show ∀ k_, w36.heap.size ≤ k_ → (fun k_ => (P1_ k_ ∨ w.heap.size ≤ k_) ∧ k_ ≠ gb227) k_ from fun k_ hk => ⟨(.inr (Nat.le_trans (bQZ tB) hk)), Kd.freshB (g := gb227) (o := .cells #[.int .i64 a0_0, .int .i64 a0_1] 27 (0, 0)) (tG BK227.out) k_ hk⟩) _ (Nat.le_refl _)) (Below.refl _ _) (Nat.le_refl _) (by simp) ?_; (case hd => rfl); (case hg => rfl); (case hr => exact tH); (case hp => exact (Reps.one (show Kd.FK (Kd.slice 2 (Kd.int .i64)) _ _ l1 [.slice A1 l1.length c1] from (Kd.FK_slice_mk (Kd.V_reads' (Kd.V_mono (ok' := (fun k_ => (P1_ k_ ∨ w.heap.size ≤ k_) ∧ k_ ≠ gb227)) (HO1.out) (fun k_ hk => ⟨hk.1, hk.2⟩))).2.1 (Kd.V_F (Kd.V_mono (ok' := (fun k_ => (P1_ k_ ∨ w.heap.size ≤ k_) ∧ k_ ≠ gb227)) (HO1.out) (fun k_ hk => ⟨hk.1, hk.2⟩))))) (Reps.none _ _))); intro v229 w38 ho39 hb hg_ hnew_; clear hg_ hnew_; (first | rw [← Ny228.out] at ho39 | (simp only [Int.reduceToNat] at ho39; rw [← Ny228.out] at ho39)); refine qM4 (Kd.V_elder' (by (with_reducible repeat (first | apply Kd.V_alloc | apply Kd.V_drewN | apply Kd.V_drew)); exact HO1.out) (Kd.N_base ho39) hb) (Kd.N_lower ho39 (bQZ tB)) (tQ BK227.out hb) (bQT tB hb) ?_; clear HO1 BK227 HB; intro HO1 HO230 BK227 HB; clear hb ho39; obtain ⟨Ao40, co40, eo40⟩ := Kd.N_slice HO230.out; subst eo40) | ((with_reducible refine gQc (f := 28) rfl ?_); refine goesL_ (some 13) rfl rfl Try.func28 (by kernel_rfl) rfl #[.agg #[.int .i64 a0_0, .int .i64 a0_1], .slice Ao40 y228.length co40] rfl tL ?_; (with_reducible refine (impl_Field_linearCode.calls k a0_0 a0_1 _ _ y228 t231 _ ?s1 ?s2 A3.out).mono ?_); (case s1 => exact tC ((Kd.N_reads' HO230.out).2.2)); (case s2 => exact (Kd.N_reads' HO230.out).2.1); rintro e w41 ⟨rfl, hb⟩; refine ⟨_, rfl, ?_⟩; refine qM4 (Kd.V_below (by (with_reducible repeat (first | apply Kd.V_alloc | apply Kd.V_drewN | apply Kd.V_drew)); exact HO1.out) hb) (Kd.N_below (by (with_reducible repeat (first | apply Kd.N_alloc | apply Kd.N_drewN | apply Kd.N_drew)); exact HO230.out) hb) (tQ BK227.out hb) (bQT tB hb) ?_; clear HO1 HO230 BK227 HB; intro HO1 HO230 BK227 HB; (try clear hb); (try clear hb2); (try clear hk); (try clear hi)))
  go_ret2
  exact ⟨_, tE, by first | exact Kd.R_nil _ _ _ _ _ | exact Kd.N_nil _ _ _ _ _ | exact Kd.V_nil _ _ _ _ _ | exact Kd.Q_nil _ _ _ _ _ | exact Kd.S_nil _ _ _ _ _, tB⟩
 rw [if_pos c4] at H
 have c4b0 := beq_iff_eq.mpr c4
 have c4b1 := bne_eq_false_iff_eq.mpr c4
 clear c4
 by_cases c5 : 0 ≤ a0_0
 rotate_left
 ·rw [if_neg c5] at H
  exact absurd H (by simp)
 rw [if_pos c5] at H
 have c5b0 := eq_true c5
 have c5b1 := decide_eq_true c5
 clear c5
 by_cases c6 : (a0_0 : Int).toNat ≤ 35184372088832
 rotate_left
 ·rw [if_neg c6] at H
  exact absurd H (by simp)
 rw [if_pos c6] at H
 have c6b0 := eq_true c6
 have c6b1 := decide_eq_true c6
 clear c6
 obtain ⟨y232, hy232⟩ : ∃ y_ : List Int, y_ = (List.replicate (a0_0 : Int).toNat 0) := ⟨_, rfl⟩
 replace H : ((impl_Field_fold.f k a0_0 a0_1 l1).bind fun t235 => (impl_AdjointLinear.l0 k y232 t235 (t235.length : Int) 0 a0_0 a0_1)) = some (r1, r2) := by first | (rw [hy232]; with_reducible exact H) | (have H2_ := (Option.bind_some _ _).symm.trans H; rw [hy232]; with_reducible exact H2_) | (have H2_ := (Option.bind_some _ _).symm.trans H; with_reducible exact H2_) | with_reducible exact H | (rw [hy232]; exact H) | exact H
 have Ny232 := Aq.mk hy232
 clear hy232
 obtain ⟨t235, A7, H⟩ := qBd H
 replace H' := Aq.mk H
 clear H
 go_enter Try.func10, Try.ntmps10
 go_wp2_with (first | ((with_reducible refine gQd (N := 2) rfl ?_); refine xQe ?hg (N := 2) ?hd (cs := #[.int .i64 a0_0, .int .i64 a0_1]) (t := 27) ?hr ?_; (case hd => rfl); (case hg => rfl); (case hr => exact tH); intro gb227 hg w8 hbox hb; refine qM5 (Kd.V_below (Kd.V_elderB (by (with_reducible repeat (first | apply Kd.V_alloc | apply Kd.V_drewN | apply Kd.V_drew)); exact HO1.out) gb227 (Nat.le_of_eq hg.symm)) hb) (bQT tB hb) hbox (tZ w hg) (tZ w hg) ?_; clear HO1 HB; intro HO1 HB BK227 GW227 GE227; clear hb hbox hg; have hcz9_0 : w8.cell? ⟨gb227, 0, none⟩ = some (.int .i64 a0_0) := (kQC BK227.out 0).trans rfl; have hcz9_1 : w8.cell? ⟨gb227, 1, none⟩ = some (.int .i64 a0_1) := (kQC BK227.out 1).trans rfl; have hfz9_0 := kQF BK227.out 0; have hfz9_1 := kQF BK227.out 1) | ((with_reducible refine gQd (N := 12) rfl ?_); refine Kd.N_lit (Kd.slice 2 (Kd.int .i64)) _ 24 ?hg (N' := 12) ?hd (xs := ([l1] : List (List Int))) (inner := [.slice A1 l1.length c1]) (ok := (fun k_ => (P1_ k_ ∨ w.heap.size ≤ k_) ∧ k_ ≠ gb227)) (okp := (fun k_ => (P1_ k_ ∨ w.heap.size ≤ k_) ∧ k_ ≠ gb227)) ?hr ?hp (fun _ hk => hk) ((show ∀ k_, w8.heap.size ≤ k_ → (fun k_ => (P1_ k_ ∨ w.heap.size ≤ k_) ∧ k_ ≠ gb227) k_ from fun k_ hk => ⟨(.inr (Nat.le_trans (bQZ tB) hk)), Kd.freshB (g := gb227) (o := .cells #[.int .i64 a0_0, .int .i64 a0_1] 27 (0, 0)) (tG BK227.out) k_ hk⟩) _ (Nat.le_refl _)) (Below.refl _ _) (Nat.le_refl _) (by simp) ?_; (case hd => rfl); (case hg => rfl); (case hr => exact tH); (case hp => exact (Reps.one (show Kd.FK (Kd.slice 2 (Kd.int .i64)) _ _ l1 [.slice A1 l1.length c1] from (Kd.FK_slice_mk (Kd.V_reads' (Kd.V_mono (ok' := (fun k_ => (P1_ k_ ∨ w.heap.size ≤ k_) ∧ k_ ≠ gb227)) (HO1.out) (fun k_ hk => ⟨hk.1, hk.2⟩))).2.1 (Kd.V_F (Kd.V_mono (ok' := (fun k_ => (P1_ k_ ∨ w.heap.size ≤ k_) ∧ k_ ≠ gb227)) (HO1.out) (fun k_ hk => ⟨hk.1, hk.2⟩))))) (Reps.none _ _))); intro v229 w10 ho11 hb hg_ hnew_; clear hg_ hnew_; (first | rw [← Ny228.out] at ho11 | (simp only [Int.reduceToNat] at ho11; rw [← Ny228.out] at ho11)); refine qM4 (Kd.V_elder' (by (with_reducible repeat (first | apply Kd.V_alloc | apply Kd.V_drewN | apply Kd.V_drew)); exact HO1.out) (Kd.N_base ho11) hb) (Kd.N_lower ho11 (bQZ tB)) (tQ BK227.out hb) (bQT tB hb) ?_; clear HO1 BK227 HB; intro HO1 HO230 BK227 HB; clear hb ho11; obtain ⟨Ao12, co12, eo12⟩ := Kd.N_slice HO230.out; subst eo12) | ((with_reducible refine gQc (f := 28) rfl ?_); refine goesL_ (some 13) rfl rfl Try.func28 (by kernel_rfl) rfl #[.agg #[.int .i64 a0_0, .int .i64 a0_1], .slice Ao12 y228.length co12] rfl tL ?_; (with_reducible refine (impl_Field_linearCode.calls k a0_0 a0_1 _ _ y228 t231 _ ?s1 ?s2 A3.out).mono ?_); (case s1 => exact tC ((Kd.N_reads' HO230.out).2.2)); (case s2 => exact (Kd.N_reads' HO230.out).2.1); rintro e w13 ⟨rfl, hb⟩; refine ⟨_, rfl, ?_⟩; refine qM4 (Kd.V_below (by (with_reducible repeat (first | apply Kd.V_alloc | apply Kd.V_drewN | apply Kd.V_drew)); exact HO1.out) hb) (Kd.N_below (by (with_reducible repeat (first | apply Kd.N_alloc | apply Kd.N_drewN | apply Kd.N_drew)); exact HO230.out) hb) (tQ BK227.out hb) (bQT tB hb) ?_; clear HO1 HO230 BK227 HB; intro HO1 HO230 BK227 HB; (try clear hb); (try clear hb2); (try clear hk); (try clear hi); have hcz14_0 : w13.cell? ⟨gb227, 0, none⟩ = some (.int .i64 a0_0) := (kQC BK227.out 0).trans rfl; have hcz14_1 : w13.cell? ⟨gb227, 1, none⟩ = some (.int .i64 a0_1) := (kQC BK227.out 1).trans rfl; have hfz14_0 := kQF BK227.out 0; have hfz14_1 := kQF BK227.out 1) | ((with_reducible refine gQd (N := 19) rfl ?_); refine Kd.R_make (Kd.int .i64) _ 2 rfl (N := 19) rfl 24 _ _ rfl a0_0 rfl rfl Try.underlying24 (.int .i64 0) 8 info2 rfl (by decide) (by omega) 0 (ok := fun _ => True) (okp := fun _ => True) rfl (fun _ hk => hk) trivial (of_decide_eq_true tA) (Nat.le_trans (Nat.mul_le_mul_right _ (of_decide_eq_true tA : a0_0.toNat ≤ 35184372088832)) (by omega)) (Below.refl _ _) (Nat.le_refl _) ?_; intro v233 w15 ho16 hb hg_ hnew_; clear hg_ hnew_; (first | rw [← Ny232.out] at ho16 | (simp only [Int.reduceToNat] at ho16; rw [← Ny232.out] at ho16)); refine qM5 (Kd.V_elder' (by (with_reducible repeat (first | apply Kd.V_alloc | apply Kd.V_drewN | apply Kd.V_drew)); exact HO1.out) (Kd.R_base ho16) hb) (Kd.N_elder' (by (with_reducible repeat (first | apply Kd.N_alloc | apply Kd.N_drewN | apply Kd.N_drew)); exact HO230.out) (Kd.R_base ho16) hb) (Kd.R_lower (Kd.R_newM (M := fun k_ => (w.heap.size ≤ k_)) ho16 (bQZ tB) (fun k_ h_ => h_)) (bQZ tB)) (tQ BK227.out hb) (bQT tB hb) ?_; clear HO1 HO230 BK227 HB; intro HO1 HO230 HO234 BK227 HB; clear hb ho16; have hcz17_0 : w15.cell? ⟨gb227, 0, none⟩ = some (.int .i64 a0_0) := (kQC BK227.out 0).trans rfl; have hcz17_1 : w15.cell? ⟨gb227, 1, none⟩ = some (.int .i64 a0_1) := (kQC BK227.out 1).trans rfl; have hfz17_0 := kQF BK227.out 0; have hfz17_1 := kQF BK227.out 1) | ((with_reducible refine gQc (f := 29) rfl ?_); refine goesL_ (some 22) rfl rfl Try.func29 (by kernel_rfl) rfl #[.agg #[.int .i64 a0_0, .int .i64 a0_1], .slice A1 l1.length c1] rfl tL ?_; (with_reducible refine (impl_Field_fold.calls k a0_0 a0_1 _ _ l1 t235 _ ?s1 ?s2 A7.out).mono ?_); (case s1 => exact tC ((Kd.V_reads' HO1.out).2.2)); (case s2 => exact (Kd.V_reads' HO1.out).2.1); rintro e w18 ⟨v236, rfl, ho0, hb⟩; refine ⟨_, rfl, ?_⟩; refine qM6 (Kd.V_elder' (by (with_reducible repeat (first | apply Kd.V_alloc | apply Kd.V_drewN | apply Kd.V_drew)); exact HO1.out) (Kd.R_base ho0) hb) (Kd.N_elder' (by (with_reducible repeat (first | apply Kd.N_alloc | apply Kd.N_drewN | apply Kd.N_drew)); exact HO230.out) (Kd.R_base ho0) hb) (Kd.R_elder' (tR HO234.out) (Kd.R_base ho0) hb) (Kd.R_lower (Kd.R_new' (Kd.R_newM (M := fun k_ => (w.heap.size ≤ k_)) ho0 (bQZ tB) (fun k_ h_ => h_)) (Kd.R_lt (tR HO234.out))) (bQZ tB)) (tQ BK227.out hb) (bQT tB hb) ?_; clear HO1 HO230 HO234 BK227 HB; intro HO1 HO230 HO234 HO237 BK227 HB; (try clear hb); (try clear hb2); (try clear hk); (try clear hi); (try clear ho0); obtain ⟨Ao19, co19, eo19⟩ := Kd.R_slice HO237.out; subst eo19))
 go_loopg [24] k (fun kq v24 w' => ∃ (x7_1 : List Int) (x24_1 : Int), v24 = .int .i64 x24_1 ∧ Aq (impl_AdjointLinear.l0 kq x7_1 t235 (t235.length : Int) x24_1 a0_0 a0_1 = some (r1, r2)) ∧ Aq (kq ≤ k) ∧ Aq (Kd.R (Kd.int .i64) 2 w' w.heap.size (fun k_ => (w.heap.size ≤ k_) ∧ some k_ ≠ ((.slice Ao19 t235.length co19) : Value).ownBlock) v233 x7_1) ∧ Aq (Kd.R (Kd.int .i64) 2 w' w.heap.size (fun k_ => (w.heap.size ≤ k_) ∧ some k_ ≠ (v233 : Value).ownBlock) (.slice Ao19 t235.length co19) t235) ∧ Aq (w'.heap[gb227]? = some (.cells #[.int .i64 a0_0, .int .i64 a0_1] 27 (0, 0))) ∧ Aq (Below w.heap.size w w'))
 case atStart => exact ⟨(y232), (0), tS, H', ⟨Nat.le_refl _⟩, ⟨by (with_reducible repeat (first | apply Kd.RqA | apply Kd.RqN | apply Kd.RqD)); exact Kd.R_mono HO234.out (fun _ hk => ⟨hk.1.1, hk.2⟩)⟩, ⟨by (with_reducible repeat (first | apply Kd.RqA | apply Kd.RqN | apply Kd.RqD)); exact Kd.R_mono HO237.out (fun _ hk => ⟨hk.1.1, hk.2⟩)⟩, ⟨tG BK227.out⟩, ⟨tB⟩⟩
 clear H'
 try clear c1
 try clear c4
 try clear c4b0
 try clear c4b1
 try clear c5
 try clear c5b0
 try clear c5b1
 try clear c6
 try clear c6b0
 try clear c6b1
 try clear hcz14_0
 try clear hcz14_1
 try clear hcz17_0
 try clear hcz17_1
 try clear hcz9_0
 try clear hcz9_1
 try clear hfz14_0
 try clear hfz14_1
 try clear hfz17_0
 try clear hfz17_1
 try clear hfz9_0
 try clear hfz9_1
 obtain ⟨x7_1, x24_1, rfl, HA, HK1, HO_7, HO_22, BK227, HB⟩ := hrel
 cases gk with
 | zero => exact absurd HA.out (by simp [impl_AdjointLinear.l0])
 | succ k1 =>
  have H := HA.out
  clear HA
  simp only [impl_AdjointLinear.l0] at H
  by_cases c20 : x24_1 < (t235.length : Int)
  rotate_left
  ·rw [if_neg c20] at H
   have c20b0 := decide_eq_false c20
   clear c20
   obtain ⟨t242, A33, H⟩ := qBd H
   simp only [Option.some.injEq, Prod.mk.injEq] at H
   obtain ⟨rfl, rfl⟩ := H
   obtain ⟨Ao34, co34, eo34⟩ := Kd.R_slice HO_7.out
   subst eo34
   go_wp2_with (first | ((with_reducible refine gQc (f := 31) rfl ?_); refine goesL_ (some 47) rfl rfl Try.func31 (by kernel_rfl) rfl #[.slice Ao34 x7_1.length co34] rfl tL ?_; (with_reducible refine (impl_trim.calls k1 (fun k_ => some k_ = (.slice Ao34 x7_1.length co34 : Value).ownBlock) (.slice Ao34 x7_1.length co34) x7_1 t242 w _ ?s1 ?s2 A33.out).mono ?_); (case s1 => exact tB); (case s2 => exact Kd.R_tight rfl HO_7.out); rintro e w35 ⟨v243, rfl, ho0, hb, hkp⟩; refine ⟨_, rfl, ?_⟩; refine qM4 (Kd.R_mono (ok' := fun k_ => (w.heap.size ≤ k_) ∧ some k_ ≠ (v243 : Value).ownBlock) (Kd.R_keptB (HO_22.out) hkp (fun k_ hk_ hs_ => (hk_.2) hs_)) (fun k_ hk_ => ⟨hk_.1.1, fun e_ => Or.elim (ho0.1 k_ e_.symm) (fun hs_ => hk_.2.1 hs_) (fun hn_ => Nat.not_le.2 hk_.2.2 hn_)⟩)) (blk_kept (tG BK227.out) hkp (fun hs_ => (fun e_ => (Kd.R_ne HO_7.out BK227.out (by decide)) e_) hs_)) (Kd.R_mono (ok' := fun k_ => (w.heap.size ≤ k_) ∧ some k_ ≠ (.slice Ao19 t235.length co19 : Value).ownBlock) ho0 (fun k_ hk_ => ⟨Or.elim hk_ (fun hs_ => (HO_7.out.1 k_ (hs_).symm).1) (fun hn_ => (Nat.le_trans (bQZ tB) hn_)), Or.elim hk_ (fun hs_ => fun e_ => (((HO_22.out).1 k_ e_.symm).2) hs_) (fun hn_ => (Kd.fresh' (Kd.R_lt (tR HO_22.out)) k_ hn_))⟩)) hb ?_; clear HO_22 BK227 HB HO_7; intro HO_22 BK227 HO244 HB; (try clear hb); (try clear hkp); (try clear ho0)))
   go_ret2
   exact ⟨_, tE, by (with_reducible repeat (first | apply Kd.RqA | apply Kd.RqN | apply Kd.RqD)); exact Kd.R_mono HO244.out (fun _ hk => hk.1), tB⟩
  rw [if_pos c20] at H
  have c20b0 := decide_eq_true c20
  clear c20
  by_cases c21 : 0 ≤ x24_1
  rotate_left
  ·rw [if_neg c21] at H
   exact absurd H (by simp)
  rw [if_pos c21] at H
  have c21b0 := decide_eq_true c21
  clear c21
  by_cases c22 : x24_1 < (t235.length : Int)
  rotate_left
  ·rw [if_neg c22] at H
   exact absurd H (by simp)
  rw [if_pos c22] at H
  have c22b0 := decide_eq_true c22
  clear c22
  by_cases c23 : a0_0 = 0
  ·rw [if_pos c23] at H
   exact absurd H (by simp)
  rw [if_neg c23] at H
  have c23b0 := beq_eq_false_iff_ne.mpr c23
  have c23b1 := bne_iff_ne.mpr c23
  obtain ⟨ji24, hji24⟩ : ∃ j_ : Int, (Int.tmod (wrap64 (a0_0 - x24_1)) a0_0) = j_ := ⟨_, rfl⟩
  first | rw [hji24] at H | simp only [hji24] at H | skip
  by_cases c25 : 0 ≤ (ji24)
  rotate_left
  ·rw [if_neg c25] at H
   exact absurd H (by simp)
  rw [if_pos c25] at H
  have c25b0 := decide_eq_true c25
  clear c25
  by_cases c26 : (ji24) < (x7_1.length : Int)
  rotate_left
  ·rw [if_neg c26] at H
   exact absurd H (by simp)
  rw [if_pos c26] at H
  have c26b0 := decide_eq_true c26
  clear c26
  obtain ⟨t240, A27, H⟩ := qBd H
  obtain ⟨y241, hy241⟩ : ∃ y_ : List Int, y_ = (x7_1.set ((ji24) : Int).toNat (Go.bits .xor .i64 (rd x7_1 (ji24)) t240)) := ⟨_, rfl⟩
  replace H : (impl_AdjointLinear.l0 k1 y241 t235 (t235.length : Int) (wrap64 (x24_1 + 1)) a0_0 a0_1) = some (r1, r2) := by first | (rw [hy241]; with_reducible exact H) | (have H2_ := (Option.bind_some _ _).symm.trans H; rw [hy241]; with_reducible exact H2_) | (have H2_ := (Option.bind_some _ _).symm.trans H; with_reducible exact H2_) | with_reducible exact H | (rw [hy241]; exact H) | exact H
  have Ny241 := Aq.mk hy241
  clear hy241
  replace H' := Aq.mk H
  clear H
  have p238 : 0 ≤ (x24_1 : Int) := of_decide_eq_true tA
  have q238 : x24_1 < (t235.length : Int) := of_decide_eq_true tA
  obtain ⟨ad238, e238, hx238_0⟩ := Kd.at_int (Kd.R_reads' HO_22.out).2.2 x24_1 p238 q238
  cases e238
  replace p238 := eq_true p238
  replace q238 := eq_true q238
  try go_wp2
  have n0_ := Aq.mk (Kd.RqD HO_7.out)
  have n1_ := Aq.mk (Kd.RqD HO_22.out)
  have n2_ := Aq.mk (kQD BK227.out)
  have n3_ := Aq.mk (bQ1 HB.out)
  clear HO_7
  clear HO_22
  clear BK227
  clear HB
  have HO_7 := n0_
  have HO_22 := n1_
  have BK227 := n2_
  have HB := n3_
  clear n0_ n1_ n2_ n3_
  obtain ⟨Ao30, co30, eo30⟩ := Kd.R_slice HO_7.out
  (first | subst eo30 | (injection eo30 with f1_ f2_ f3_; have f4_ := f1_.symm; have f5_ := f3_.symm; clear f1_ f2_ f3_; subst f4_; subst f5_))
  have p239 : 0 ≤ ((ji24) : Int) := of_decide_eq_true tA
  have q239 : (ji24) < (x7_1.length : Int) := of_decide_eq_true tA
  obtain ⟨ad239, e239, hx239_0⟩ := Kd.at_int (Kd.R_reads' HO_7.out).2.2 (ji24) p239 q239
  cases e239
  replace p239 := eq_true p239
  replace q239 := eq_true q239
  refine start_ (n := 17) (S := fun w' => w'.cell? ⟨gb227, 0, none⟩ = some (.int .i64 a0_0) ∧ w'.cell? ⟨gb227, 1, none⟩ = some (.int .i64 a0_1) ∧ w'.cell? (ad239.add ((ji24)).toNat) = some (.int .i64 (rd x7_1 (ji24)))) (ds := [16]) #[false, false, false, false, false, false, false, false, false, false, false, false, false, false, false, false, false] (by kernel_rfl) rfl rfl ⟨(kQC BK227.out 0).trans rfl, (kQC BK227.out 1).trans rfl, hx239_0⟩ (fun hHeld => ?_); refine with_tabW impl_AdjointLinear.tab8 impl_AdjointLinear.bits8 (fun HT_ HW_ => ?_)
  generalize wr.drew = w29 at HO_7 HO_22 BK227 HB hx239_0 hHeld ⊢
  refine tP0 0 29 (bm 17 1) ?_
  refine tP0 1 30 (bm 17 3) ?_
  refine tP0 3 32 (bm 17 11) ?_
  refine tP0 5 34 (bm 17 43) ?_
  refine tP0 11 40 (bm 17 2091) ?_
  refine tP0 12 41 (bm 17 6187) ?_
  refine tT3 2 31 (bm 17 6191) ?_
  refine tP0 4 33 (bm 17 6207) ?_
  refine tT3 6 35 (bm 17 6271) ?_
  refine tP0 7 36 (bm 17 6399) ?_
  refine tP0 8 37 (bm 17 6655) ?_
  refine tT3 9 38 (bm 17 7167) ?_
  refine tT3 10 39 (bm 17 8191) ?_
  refine one_ (i := 13) (N := some 42) (bm 17 16383) rfl rfl (one_of HT_.out (by kernel_rfl)) (by decide) (fun K hK => ?_)
  refine goes_ Try.func30 (by kernel_rfl) rfl #[.agg #[.int .i64 a0_0, .int .i64 a0_1], .int .i64 (rd t235 x24_1), .int .i64 x24_1] (by rfl) rfl rfl tL ?_
  with_reducible refine (impl_Field_root.calls k1 a0_0 a0_1 (rd t235 x24_1) x24_1 t240 _ A27.out).mono ?_
  rintro e w31 ⟨rfl, hb⟩
  have HS2_ := (hb.cell (World.block_lt_of_cell? _ _ (hHeld.2.2))).trans (hHeld.2.2)
  refine ⟨_, rfl, ?_⟩
  have n0_ := Aq.mk (Kd.R_below (tR HO_7.out) hb)
  have n1_ := Aq.mk (Kd.R_below (tR HO_22.out) hb)
  have n2_ := Aq.mk (tQ BK227.out hb)
  have n3_ := Aq.mk (bQT tB hb)
  clear HO_7
  clear HO_22
  clear BK227
  clear HB
  have HO_7 := n0_
  have HO_22 := n1_
  have BK227 := n2_
  have HB := n3_
  clear n0_ n1_ n2_ n3_
  (try clear hb)
  (try clear hb2)
  (try clear hk)
  (try clear hi)
  have p28 : 0 ≤ ((ji24) : Int) := of_decide_eq_true tA
  have q28 : ((ji24) : Int) < ((x7_1.length : Int) : Int) := of_decide_eq_true tA
  obtain ⟨go28, co28, eo28, gb28, gl28, cl28, HG28⟩ := Kd.R_form HO_7.out (by omega)
  (first | cases eo28 | (injection eo28 with ea_ en_ ec_; (first | subst ea_ | (injection ea_ with ea_; subst ea_)); subst ec_; clear en_))
  have GB28 := Aq.mk gb28
  have GG28 := Aq.mk HG28
  clear gb28 gl28 HG28
  (first | simp only [add_plain] at hx239_0 | skip)
  obtain ⟨hx28_0, hf28_0⟩ := Kd.R_celln 0 HO_7.out ((ji24) : Int) p28 q28
  replace p28 := eq_true p28
  replace q28 := eq_true q28
  have HP32 := Kd.R_putn HO_7.out ((ji24) : Int) (Go.bits .xor .i64 (rd x7_1 (ji24)) t240)
  rw [← Ny241.out] at HP32
  have HQ32 := Aq.mk HP32
  clear HP32
  refine hK.out _ _ ⟨(kQC BK227.out 0).trans rfl, (kQC BK227.out 1).trans rfl, HS2_⟩ (fun hHeld => ?_)
  clear hK K
  refine tN 42 ?_
  refine tP0 14 43 (bm 17 32767) ?_
  refine tP0 15 44 (bm 17 65535) ?_
  refine last_ (i := 16) (N := none) #[true, true, true, true, true, true, true, true, true, true, true, true, true, true, true, true, true] rfl rfl (one_of HT_.out (by kernel_rfl)) (by decide) (fun K hK => ?_)
  refine skip_ (w1 := ?_) (by rfl) rfl ?_ ?_
  rotate_left
  ·go_simp
   rfl
  refine hK.out _ _ ?_
  clear hK K
  refine done_ (done_of HT_.out (by kernel_rfl)) ?_
  try go_wp2
  go_roundg k1
  case measure => have := HK1.out; omega
  case rel => exact ⟨(y241), (wrap64 (x24_1 + 1)), tS, H', ⟨by have := HK1.out; omega⟩, ⟨tR HQ32.out⟩, ⟨by (with_reducible repeat (first | apply Kd.RqA | apply Kd.RqN | apply Kd.RqD)); exact Kd.R_mono (Kd.R_far (p := ⟨go28, ((ji24) : Int).toNat, none⟩) (Kd.R_mono HO_22.out (fun k_ hk => (⟨hk, fun e_ => hk.2 (by rw [e_]; rfl)⟩ : _ ∧ k_ ≠ go28))) (fun _ hk => hk.2) (.int .i64 (Go.bits .xor .i64 (rd x7_1 (ji24)) t240))) (fun _ hk => ⟨hk.1.1, hk.1.2⟩)⟩, ⟨by (with_reducible repeat (first | refine kQN ?_ _ | refine kQD ?_ | refine kQA ?_ _)); refine kQR ?_ (by have h_ := Kd.R_ne HO_7.out BK227.out (by decide); intro e_; exact h_ (by rw [e_]; rfl)) _; (with_reducible repeat (first | refine kQN ?_ _ | refine kQD ?_ | refine kQA ?_ _)); exact BK227.out⟩, ⟨by repeat (first | (with_reducible first | exact HB.out | apply bQA | apply bQN | apply bQ1 | refine bQS ?_ GB28.out | refine bQS ?_ GE227.out) | exact HB.out)⟩⟩
end Go.Proofs.Ytpigghpimgkilaa.P
