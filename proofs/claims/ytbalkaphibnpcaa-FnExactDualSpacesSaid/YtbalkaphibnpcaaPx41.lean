/- Functions of the program and what they tell, as the printing program wrote it. -/
import Derived.Test.YtbalkaphibnpcaaPx0
import Derived.Test.YtbalkaphibnpcaaPx4
import Derived.Test.YtbalkaphibnpcaaPx26
import Derived.Test.YtbalkaphibnpcaaPx40
namespace Go.Proofs.Ytbalkaphibnpcaa.P
open Go.Shelf Go.RowKit Go.Proofs.YtbalkaphibnpcaaW.PrintWords Go.Proofs.YtbalkaphibnpcaaW.PrintLast Go.Proofs.YtbalkaphibnpcaaW.PrintMore
attribute [local go_sem] max2_int min2_int max_two min_two max_three min_three max_four min_four
set_option linter.unusedVariables false
set_option linter.unusedSimpArgs false
set_option maxHeartbeats 8000000
set_option maxRecDepth 100000
def impl_DualSpaces.l0 : Nat → List (S63) → List (S63) → Int → Int → Option ((List (S63)) × Int)
  | 0, _, _, _, _ => none
  | k + 1, x4, x11, x12, x13 => if x13 < x12 then (if 0 ≤ x13 then (if x13 < (x11.length : Int) then ((impl_Matrix_kernel.f k ((rd_T63 x11 x13).f0) ((rd_T63 x11 x13).f1)).bind fun bt705 => (if x4.length < 4398046511104 then (impl_DualSpaces.l0 k (x4 ++ [(⟨bt705.1, bt705.2⟩ : S63)]) x11 x12 (wrap64 (x13 + 1))) else (none))) else (none)) else (none)) else (some (x4, 0))
def impl_DualSpaces.f (k : Nat) (l0 : List (S63)) : Option ((List (S63)) × Int) := (impl_ValidSpaces.f k l0).bind fun t699 => (if t699 = true then (impl_DualSpaces.l0 k (([] : List (S63))) l0 (l0.length : Int) 0) else (some (([] : List (S63)), 1)))
theorem impl_DualSpaces.mono_l : ∀ k, (∀ y0 y1 y2 y3, LeO (impl_DualSpaces.l0 k y0 y1 y2 y3) (impl_DualSpaces.l0 (k + 1) y0 y1 y2 y3))
 | 0 => fun _ _ _ _ r h => by simp [impl_DualSpaces.l0] at h
 | k + 1 => by
  have ih0 := impl_DualSpaces.mono_l k
  ·intro y0 y1 y2 y3
   unfold impl_DualSpaces.l0
   repeat' first
   | (with_reducible first | apply ih0 | apply impl_Matrix_kernel.mono | apply impl_ValidSpaces.mono | exact LeO.refl _ | exact LeO.none _ | refine LeO.ite ?_ ?_ | refine LeO.bind ?_ (fun _ => ?_))
   | exact LeO.none _
   | refine LeO.ite ?_ ?_
   | refine LeO.bind ?_ (fun _ => ?_)
theorem impl_DualSpaces.mono : ∀ a0 k, LeO (impl_DualSpaces.f k a0) (impl_DualSpaces.f (k + 1) a0) := by
 intro a0 k
 have ih0 := impl_DualSpaces.mono_l k
 unfold impl_DualSpaces.f
 repeat' first
  | (with_reducible first | apply ih0 | apply impl_Matrix_kernel.mono | apply impl_ValidSpaces.mono | exact LeO.refl _ | exact LeO.none _ | refine LeO.ite ?_ ?_ | refine LeO.bind ?_ (fun _ => ?_))
  | exact LeO.none _
  | refine LeO.ite ?_ ?_
  | refine LeO.bind ?_ (fun _ => ?_)
theorem impl_DualSpaces.calls (k : Nat) (A0 : Option Addr) (c0 : Nat) (l0 : List (S63)) (r1 : List (S63)) (r2 : Int) (w : World) (hr0 : Kd.C k63 w A0 l0.length l0) (hc0 : l0.length ≤ c0) (h : impl_DualSpaces.f k l0 = some (r1, r2)) :
 Calls Try.prog 30 #[.slice A0 l0.length c0] w fun e w' => ∃ v0_ : Value, e = .returned (.tuple #[v0_, .int .i64 r2]) ∧ Kd.S k63 63 w' w.heap.size (fun _ => True) v0_ r1 ∧ Below w.heap.size w w' := by
 have hu63 := Try.underlying63
 have HR0 := Aq.mk hr0
 have HC0 := Aq.mk hc0
 clear hr0 hc0
 have HB := Aq.mk (Below.refl w.heap.size w)
 have H : ((impl_ValidSpaces.f k l0).bind fun t699 => (if t699 = true then (impl_DualSpaces.l0 k (([] : List (S63))) l0 (l0.length : Int) 0) else (some (([] : List (S63)), 1)))) = some (r1, r2) := h
 clear h
 obtain ⟨t699, A2, H⟩ := qBd H
 by_cases c3 : t699 = true
 rotate_left
 ·replace c3 := Bool.eq_false_iff.mpr c3
  subst c3
  rw [if_neg (show ¬ (false = true) by decide)] at H
  simp only [Option.some.injEq, Prod.mk.injEq] at H
  obtain ⟨rfl, rfl⟩ := H
  go_enter Try.func30, Try.ntmps30
  go_wp2_with (first | ((with_reducible refine gQc (f := 55) rfl ?_); refine goesL_ (some 8) rfl rfl Try.func55 (by kernel_rfl) rfl #[.slice A0 l0.length c0] rfl tL ?_; (with_reducible refine (impl_ValidSpaces.calls k _ _ l0 false _ ?s1 ?s2 A2.out).mono ?_); (case s1 => exact tC HR0.out); (case s2 => exact HC0.out); rintro e w17 ⟨rfl, hb⟩; refine ⟨_, rfl, ?_⟩; refine qM1 (bQT tB hb) ?_; clear HB; intro HB; (try clear hb); (try clear hb2); (try clear hk); (try clear hi)))
  go_ret2
  exact ⟨_, tE, by first | exact Kd.S_nil _ _ _ _ _ | exact Kd.N_nil _ _ _ _ _ | exact Kd.V_nil _ _ _ _ _ | exact Kd.Q_nil _ _ _ _ _ | exact Kd.R_nil _ _ _ _ _, tB⟩
 subst c3
 rw [if_pos rfl] at H
 obtain ⟨y700, hy700⟩ : ∃ y_ : List (S63), y_ = (([] : List (S63))) := ⟨_, rfl⟩
 replace H : (impl_DualSpaces.l0 k y700 l0 (l0.length : Int) 0) = some (r1, r2) := by first | (rw [hy700]; with_reducible exact H) | (have H2_ := (Option.bind_some _ _).symm.trans H; rw [hy700]; with_reducible exact H2_) | (have H2_ := (Option.bind_some _ _).symm.trans H; with_reducible exact H2_) | with_reducible exact H | (rw [hy700]; exact H) | exact H
 have Ny700 := Aq.mk hy700
 clear hy700
 replace H' := Aq.mk H
 clear H
 go_enter Try.func30, Try.ntmps30
 go_wp2_with (first | ((with_reducible refine gQc (f := 55) rfl ?_); refine goesL_ (some 8) rfl rfl Try.func55 (by kernel_rfl) rfl #[.slice A0 l0.length c0] rfl tL ?_; (with_reducible refine (impl_ValidSpaces.calls k _ _ l0 true _ ?s1 ?s2 A2.out).mono ?_); (case s1 => exact tC HR0.out); (case s2 => exact HC0.out); rintro e w4 ⟨rfl, hb⟩; refine ⟨_, rfl, ?_⟩; refine qM1 (bQT tB hb) ?_; clear HB; intro HB; (try clear hb); (try clear hb2); (try clear hk); (try clear hi)) | ((with_reducible refine gQd (N := 10) rfl ?_); refine Kd.S_lit k63 _ 63 ?hg (N := 10) ?hd (xs := ([] : List (S63))) (inner := []) (ok := fun _ => True) (okp := fun _ => True) ?hr ?hp (fun _ hk => hk) trivial (Below.refl _ _) (Nat.le_refl _) (by simp) ?_; (case hd => rfl); (case hg => rfl); (case hr => exact tH); (case hp => exact (Reps.none _ _)); intro v701 w5 ho6 hb hg_ hnew_; clear hg_ hnew_; (first | rw [← Ny700.out] at ho6 | (simp only [Int.reduceToNat] at ho6; rw [← Ny700.out] at ho6)); refine qM2 (Kd.S_lower ho6 (bQZ tB)) (bQT tB hb) ?_; clear HB; intro HO702 HB; clear hb ho6))
 go_loopg [4, 13] k (fun kq v4 v13 w' => ∃ (x4_1 : List (S63)) (x13_1 : Int), v13 = .int .i64 x13_1 ∧ Aq (impl_DualSpaces.l0 kq x4_1 l0 (l0.length : Int) x13_1 = some (r1, r2)) ∧ Aq (kq ≤ k) ∧ Aq (Kd.S k63 63 w' w.heap.size (fun _ => True) v4 x4_1) ∧ Aq (Below w.heap.size w w'))
 case atStart => exact ⟨(y700), (0), tS, H', ⟨Nat.le_refl _⟩, ⟨by (with_reducible repeat (first | apply Kd.S_alloc | apply Kd.S_drewN | apply Kd.S_drew)); exact HO702.out⟩, ⟨tB⟩⟩
 clear H'
 try clear c3
 obtain ⟨x4_1, x13_1, rfl, HA, HK1, HO_4, HB⟩ := hrel
 cases gk with
 | zero => exact absurd HA.out (by simp [impl_DualSpaces.l0])
 | succ k1 =>
  have H := HA.out
  clear HA
  simp only [impl_DualSpaces.l0] at H
  by_cases c7 : x13_1 < (l0.length : Int)
  rotate_left
  ·rw [if_neg c7] at H
   have c7b0 := decide_eq_false c7
   clear c7
   simp only [Option.some.injEq, Prod.mk.injEq] at H
   obtain ⟨rfl, rfl⟩ := H
   go_wp2
   go_ret2
   exact ⟨_, tE, by (with_reducible repeat (first | apply Kd.S_alloc | apply Kd.S_drewN | apply Kd.S_drew)); exact HO_4.out, tB⟩
  rw [if_pos c7] at H
  have c7b0 := decide_eq_true c7
  clear c7
  by_cases c8 : 0 ≤ x13_1
  rotate_left
  ·rw [if_neg c8] at H
   exact absurd H (by simp)
  rw [if_pos c8] at H
  have c8b0 := decide_eq_true c8
  clear c8
  by_cases c9 : x13_1 < (l0.length : Int)
  rotate_left
  ·rw [if_neg c9] at H
   exact absurd H (by simp)
  rw [if_pos c9] at H
  have c9b0 := decide_eq_true c9
  clear c9
  obtain ⟨⟨t705, t706⟩, A10, H⟩ := qBd H
  (try dsimp only at H)
  by_cases c11 : x4_1.length < 4398046511104
  rotate_left
  ·rw [if_neg c11] at H
   exact absurd H (by simp)
  rw [if_pos c11] at H
  have LMc11 := Aq.mk c11
  clear c11
  obtain ⟨y709, hy709⟩ : ∃ y_ : List (S63), y_ = (x4_1 ++ [(⟨t705, t706⟩ : S63)]) := ⟨_, rfl⟩
  replace H : (impl_DualSpaces.l0 k1 y709 l0 (l0.length : Int) (wrap64 (x13_1 + 1))) = some (r1, r2) := by first | (rw [hy709]; with_reducible exact H) | (have H2_ := (Option.bind_some _ _).symm.trans H; rw [hy709]; with_reducible exact H2_) | (have H2_ := (Option.bind_some _ _).symm.trans H; with_reducible exact H2_) | with_reducible exact H | (rw [hy709]; exact H) | exact H
  have Ny709 := Aq.mk hy709
  clear hy709
  replace H' := Aq.mk H
  clear H
  have p703 : 0 ≤ (x13_1 : Int) := of_decide_eq_true tA
  have q703 : x13_1 < (l0.length : Int) := of_decide_eq_true tA
  obtain ⟨ad703, A703_1, c703_1, e703, hx703_0, hx703_1, hl703_1, hi703_1⟩ := at_T63 HR0.out x13_1 p703 q703
  cases e703
  replace hx703_0 := (HB.out.cell (World.block_lt_of_cell? w _ hx703_0)).trans hx703_0
  replace hx703_1 := (HB.out.cell (World.block_lt_of_cell? w _ hx703_1)).trans hx703_1
  have HR703_1 := Aq.mk hi703_1
  have HC703_1 := Aq.mk hl703_1
  clear hi703_1 hl703_1
  replace p703 := eq_true p703
  replace q703 := eq_true q703
  go_wp2_with (first | ((with_reducible refine gQd (N := 6) rfl ?_); refine xQe ?hg (N := 6) ?hd (cs := #[.int .i64 0, .slice none 0 0]) (t := 63) ?hr ?_; (case hd => rfl); (case hg => rfl); (case hr => exact tH); intro gb704 hg w12 hbox hb; refine qM5 (Kd.S_below (Kd.S_elderB (by (with_reducible repeat (first | apply Kd.S_alloc | apply Kd.S_drewN | apply Kd.S_drew)); exact HO_4.out) gb704 (Nat.le_of_eq hg.symm)) hb) (bQT tB hb) hbox (tZ w hg) (tZ w hg) ?_; clear HO_4 HB; intro HO_4 HB BK704 GW704 GE704; clear hb hbox hg; have hcz13_0 : w12.cell? ⟨gb704, 0, none⟩ = some (.int .i64 0) := (kQC BK704.out 0).trans rfl; have hcz13_1 : w12.cell? ⟨gb704, 1, none⟩ = some (.slice none 0 0) := (kQC BK704.out 1).trans rfl; have hfz13_0 := kQF BK704.out 0; have hfz13_1 := kQF BK704.out 1) | ((with_reducible refine gQc (f := 56) rfl ?_); refine goesL_ (some 19) rfl rfl Try.func56 (by kernel_rfl) rfl #[.agg #[.int .i64 ((rd_T63 l0 x13_1).f0), .slice A703_1 ((rd_T63 l0 x13_1).f1).length c703_1]] rfl tL ?_; (with_reducible refine (impl_Matrix_kernel.calls k1 ((rd_T63 l0 x13_1).f0) _ _ ((rd_T63 l0 x13_1).f1) t705 t706 _ ?s1 ?s2 A10.out).mono ?_); (case s1 => exact Kd.C_below HR703_1.out tB); (case s2 => exact HC703_1.out); rintro e w14 ⟨v707, rfl, ho0, hb⟩; refine ⟨_, rfl, ?_⟩; refine qM4 (Kd.S_elder' (by (with_reducible repeat (first | apply Kd.S_alloc | apply Kd.S_drewN | apply Kd.S_drew)); exact (Kd.S_mono (Kd.S_far (p := ⟨gb704, 1, none⟩) (Kd.S_far (p := ⟨gb704, 0, none⟩) (Kd.S_mono HO_4.out (fun k_ hk => (⟨hk, hk.2⟩ : _ ∧ k_ ≠ gb704))) (fun _ hk => hk.2) (.int .i64 ((rd_T63 l0 x13_1).f0))) (fun _ hk => hk.2) (.slice A703_1 ((rd_T63 l0 x13_1).f1).length c703_1)) (fun _ h_ => h_.1))) (Kd.R_base ho0) hb) (Kd.R_lower ho0 (bQZ tB)) (kQB (g := gb704) (o := .cells #[.int .i64 ((rd_T63 l0 x13_1).f0), .slice A703_1 ((rd_T63 l0 x13_1).f1).length c703_1] 63 (0, 0)) (by (with_reducible repeat (first | refine kQN ?_ _ | refine kQD ?_ | refine kQA ?_ _)); refine kQP (cs := #[.int .i64 ((rd_T63 l0 x13_1).f0), .slice none 0 0]) ?_ 1 _ rfl; (with_reducible repeat (first | refine kQN ?_ _ | refine kQD ?_ | refine kQA ?_ _)); refine kQP (cs := #[.int .i64 0, .slice none 0 0]) ?_ 0 _ rfl; (with_reducible repeat (first | refine kQN ?_ _ | refine kQD ?_ | refine kQA ?_ _)); exact BK704.out) hb) (bQT tB hb) ?_; clear HO_4 BK704 HB; intro HO_4 HO708 BK704 HB; (try clear hb); (try clear hb2); (try clear hk); (try clear hi); (try clear ho0); obtain ⟨Ao16, co16, eo16⟩ := Kd.R_slice HO708.out; subst eo16) | ((with_reducible refine gate_builtin (b := .append) (xs := #[.tmp 17, .tmp 20]) rfl ?_); at_builtin; refine Kd.S_append k63 (w0 := w) w.heap.size rfl (.tmp 17) (.tmp 20) 51 63 (.agg #[(.int .i64 0), (.slice none 0 0)]) 32 rfl Try.underlying51 info63 rfl (by decide) (by omega) u4 x4_1 (⟨t705, t706⟩ : S63) [.int .i64 t705, .slice Ao16 t706.length co16] (fun k_ => k_ ≠ gb704) (fun k_ => some k_ = (.slice Ao16 t706.length co16 : Value).ownBlock) rfl rfl ?aP (fun k_ hk_ => ((Kd.R_mono (ok' := fun k_ => ((fun k_ => k_ ≠ gb704)) k_ ∧ some k_ ≠ (u4 : Value).ownBlock) (Kd.R_types (Kd.R_apart' (HO708.out) (Kd.S_typed HO_4.out) (by decide)) BK704.out (by decide)) (fun k_ hk => ⟨hk.2, hk.1.2⟩))).1 k_ hk_.symm) ?aF ?aO ?aB ?aS ?aL ?_; (case aP => exact k63_mkM _ _ _ (⟨t705, t706⟩ : S63) (Kd.R_mono (Kd.R_tight rfl (Kd.R_mono (ok' := fun k_ => ((fun k_ => k_ ≠ gb704)) k_ ∧ some k_ ≠ (u4 : Value).ownBlock) (Kd.R_types (Kd.R_apart' (HO708.out) (Kd.S_typed HO_4.out) (by decide)) BK704.out (by decide)) (fun k_ hk => ⟨hk.2, hk.1.2⟩))) (fun _ h_ => h_))); (case aB => exact tB); (case aF => exact (fun k_ hk => Kd.freshB (g := gb704) (o := .cells #[.int .i64 ((rd_T63 l0 x13_1).f0), .slice A703_1 ((rd_T63 l0 x13_1).f1).length c703_1] 63 (0, 0)) (tG BK704.out) k_ hk)); (case aO => exact (by (with_reducible repeat (first | apply Kd.S_alloc | apply Kd.S_drewN | apply Kd.S_drew)); exact Kd.S_mono HO_4.out (fun k_ hk => ⟨hk.1.2, fun e_ => hk.2 e_⟩))); (case aS => exact (bQZ tB)); (case aL => have := LMc11.out; omega); intro v710 w15 ho hb hg hat; rw [← Ny709.out] at ho; refine qM3 (blk_grown (g := gb704) (o := .cells #[.int .i64 ((rd_T63 l0 x13_1).f0), .slice A703_1 ((rd_T63 l0 x13_1).f1).length c703_1] 63 (0, 0)) (tG BK704.out) hg (Kd.S_away HO_4.out (fun _ hk => hk.1.2))) hb ho ?_; clear BK704 HB HO_4 HO708; intro BK704 HB HO711; clear ho hb hg hat))
  go_roundg k1
  case measure => have := HK1.out; omega
  case rel => exact ⟨(y709), (wrap64 (x13_1 + 1)), tS, H', ⟨by have := HK1.out; omega⟩, ⟨by (with_reducible repeat (first | apply Kd.S_alloc | apply Kd.S_drewN | apply Kd.S_drew)); exact Kd.S_mono HO711.out (fun _ hk => trivial)⟩, ⟨tB⟩⟩
def laws_heldMatrixS.l0 : Nat → List (S63) → Int → Int → Option (Int)
  | 0, _, _, _ => none
  | k + 1, x0, x1, x5 => if x5 < (x0.length : Int) then (if 0 ≤ x5 then (if ((rd_T63 x0 x5).f0) = x1 then ((laws_heldInt64S.f k ((rd_T63 x0 x5).f1) (wrap64 (x1 + 1))).bind fun t720 => (if t720 < 0 then (some (-1)) else (laws_heldMatrixS.l0 k x0 t720 (wrap64 (x5 + 1))))) else (some (-1))) else (none)) else (some x1)
def laws_heldMatrixS.f (k : Nat) (l0 : List (S63)) (a1 : Int) : Option (Int) := laws_heldMatrixS.l0 k l0 a1 0
theorem laws_heldMatrixS.mono_l : ∀ k, (∀ y0 y1 y2, LeO (laws_heldMatrixS.l0 k y0 y1 y2) (laws_heldMatrixS.l0 (k + 1) y0 y1 y2))
 | 0 => fun _ _ _ r h => by simp [laws_heldMatrixS.l0] at h
 | k + 1 => by
  have ih0 := laws_heldMatrixS.mono_l k
  ·intro y0 y1 y2
   unfold laws_heldMatrixS.l0
   repeat' first
   | (with_reducible first | apply ih0 | apply laws_heldInt64S.mono | exact LeO.refl _ | exact LeO.none _ | refine LeO.ite ?_ ?_ | refine LeO.bind ?_ (fun _ => ?_))
   | exact LeO.none _
   | refine LeO.ite ?_ ?_
   | refine LeO.bind ?_ (fun _ => ?_)
theorem laws_heldMatrixS.mono : ∀ a0 a1 k, LeO (laws_heldMatrixS.f k a0 a1) (laws_heldMatrixS.f (k + 1) a0 a1) := by
 intro a0 a1 k
 have ih0 := laws_heldMatrixS.mono_l k
 unfold laws_heldMatrixS.f
 repeat' first
  | (with_reducible first | apply ih0 | apply laws_heldInt64S.mono | exact LeO.refl _ | exact LeO.none _ | refine LeO.ite ?_ ?_ | refine LeO.bind ?_ (fun _ => ?_))
  | exact LeO.none _
  | refine LeO.ite ?_ ?_
  | refine LeO.bind ?_ (fun _ => ?_)
theorem laws_heldMatrixS.calls (k : Nat) (A0 : Option Addr) (c0 : Nat) (l0 : List (S63)) (a1 : Int) (r : Int) (w : World) (hr0 : Kd.C k63 w A0 l0.length l0) (hc0 : l0.length ≤ c0) (h : laws_heldMatrixS.f k l0 a1 = some r) :
 Calls Try.prog 33 #[.slice A0 l0.length c0, .int .i64 a1] w fun e w' => e = .returned (.int .i64 r) ∧ Dq w w' := by
 have HR0 := Aq.mk hr0
 have HC0 := Aq.mk hc0
 clear hr0 hc0
 have H : (laws_heldMatrixS.l0 k l0 a1 0) = some r := h
 clear h
 replace H' := Aq.mk H
 clear H
 go_enter Try.func33, Try.ntmps33
 go_wp2
 go_loopg [1, 5] k (fun kq v1 v5 w' => ∃ (x1_1 : Int) (x5_1 : Int), v1 = .int .i64 x1_1 ∧ v5 = .int .i64 x5_1 ∧ Aq (laws_heldMatrixS.l0 kq l0 x1_1 x5_1 = some r) ∧ Aq (kq ≤ k) ∧ Dq w w')
 case atStart => exact ⟨(a1), (0), tS, tS, H', ⟨Nat.le_refl _⟩, tD⟩
 clear H'
 obtain ⟨x1_1, x5_1, rfl, rfl, HA, HK1, ⟨m1, rfl⟩⟩ := hrel
 cases gk with
 | zero => exact absurd HA.out (by simp [laws_heldMatrixS.l0])
 | succ k1 =>
  have H := HA.out
  clear HA
  simp only [laws_heldMatrixS.l0] at H
  by_cases c3 : x5_1 < (l0.length : Int)
  rotate_left
  ·rw [if_neg c3] at H
   have c3b0 := decide_eq_false c3
   clear c3
   obtain rfl := Option.some.inj H
   go_wp2
   go_ret
   exact ⟨tS, tD⟩
  rw [if_pos c3] at H
  have c3b0 := decide_eq_true c3
  clear c3
  by_cases c4 : 0 ≤ x5_1
  rotate_left
  ·rw [if_neg c4] at H
   exact absurd H (by simp)
  rw [if_pos c4] at H
  have c4b0 := decide_eq_true c4
  clear c4
  by_cases c5 : ((rd_T63 l0 x5_1).f0) = x1_1
  rotate_left
  ·rw [if_neg c5] at H
   have c5b0 := beq_eq_false_iff_ne.mpr c5
   have c5b1 := bne_iff_ne.mpr c5
   obtain rfl := Option.some.inj H
   have p718 : 0 ≤ (x5_1 : Int) := of_decide_eq_true tA
   have q718 : x5_1 < (l0.length : Int) := of_decide_eq_true tA
   obtain ⟨ad718, A718_1, c718_1, e718, hx718_0, hx718_1, hl718_1, hi718_1⟩ := at_T63 HR0.out x5_1 p718 q718
   cases e718
   have HR718_1 := Aq.mk hi718_1
   have HC718_1 := Aq.mk hl718_1
   clear hi718_1 hl718_1
   replace p718 := eq_true p718
   replace q718 := eq_true q718
   go_wp2
   go_ret
   exact ⟨tS, tD⟩
  rw [if_pos c5] at H
  have c5b0 := beq_iff_eq.mpr c5
  have c5b1 := bne_eq_false_iff_eq.mpr c5
  clear c5
  obtain ⟨t720, A6, H⟩ := qBd H
  by_cases c7 : t720 < 0
  ·rw [if_pos c7] at H
   have c7b0 := decide_eq_true c7
   clear c7
   obtain rfl := Option.some.inj H
   have p718 : 0 ≤ (x5_1 : Int) := of_decide_eq_true tA
   have q718 : x5_1 < (l0.length : Int) := of_decide_eq_true tA
   obtain ⟨ad718, A718_1, c718_1, e718, hx718_0, hx718_1, hl718_1, hi718_1⟩ := at_T63 HR0.out x5_1 p718 q718
   cases e718
   have HR718_1 := Aq.mk hi718_1
   have HC718_1 := Aq.mk hl718_1
   clear hi718_1 hl718_1
   replace p718 := eq_true p718
   replace q718 := eq_true q718
   have p719 : 0 ≤ (x5_1 : Int) := of_decide_eq_true tA
   have q719 : x5_1 < (l0.length : Int) := of_decide_eq_true tA
   obtain ⟨ad719, A719_1, c719_1, e719, hx719_0, hx719_1, hl719_1, hi719_1⟩ := at_T63 HR0.out x5_1 p719 q719
   obtain rfl : ad718 = ad719 := (by injection e719)
   have HR719_1 := Aq.mk hi719_1
   have HC719_1 := Aq.mk hl719_1
   clear hi719_1 hl719_1
   replace p719 := eq_true p719
   replace q719 := eq_true q719
   have ea_ := Option.some.inj (hx718_1.symm.trans hx719_1)
   injection ea_ with ea_ en_ ec_
   subst ea_
   subst ec_
   clear en_
   go_wp2_with (first | ((with_reducible refine gQc (f := 26) rfl ?_); refine goesL_ (some 27) rfl rfl Try.func26 (by kernel_rfl) rfl #[.slice A718_1 ((rd_T63 l0 x5_1).f1).length c718_1, .int .i64 (wrap64 (x1_1 + 1))] rfl tL ?_; (with_reducible refine (laws_heldInt64S.calls k1 _ _ ((rd_T63 l0 x5_1).f1) (wrap64 (x1_1 + 1)) t720 _ ?s1 ?s2 A6.out).mono ?_); (case s1 => exact tC HR719_1.out); (case s2 => exact HC719_1.out); rintro e w' ⟨rfl, ⟨nd, rfl⟩⟩; refine ⟨_, rfl, ?_⟩))
   go_ret
   exact ⟨tS, tD⟩
  rw [if_neg c7] at H
  have c7b0 := decide_eq_false c7
  clear c7
  replace H' := Aq.mk H
  clear H
  have p718 : 0 ≤ (x5_1 : Int) := of_decide_eq_true tA
  have q718 : x5_1 < (l0.length : Int) := of_decide_eq_true tA
  obtain ⟨ad718, A718_1, c718_1, e718, hx718_0, hx718_1, hl718_1, hi718_1⟩ := at_T63 HR0.out x5_1 p718 q718
  cases e718
  have HR718_1 := Aq.mk hi718_1
  have HC718_1 := Aq.mk hl718_1
  clear hi718_1 hl718_1
  replace p718 := eq_true p718
  replace q718 := eq_true q718
  have p719 : 0 ≤ (x5_1 : Int) := of_decide_eq_true tA
  have q719 : x5_1 < (l0.length : Int) := of_decide_eq_true tA
  obtain ⟨ad719, A719_1, c719_1, e719, hx719_0, hx719_1, hl719_1, hi719_1⟩ := at_T63 HR0.out x5_1 p719 q719
  obtain rfl : ad718 = ad719 := (by injection e719)
  have HR719_1 := Aq.mk hi719_1
  have HC719_1 := Aq.mk hl719_1
  clear hi719_1 hl719_1
  replace p719 := eq_true p719
  replace q719 := eq_true q719
  have ea_ := Option.some.inj (hx718_1.symm.trans hx719_1)
  injection ea_ with ea_ en_ ec_
  subst ea_
  subst ec_
  clear en_
  go_wp2_with (first | ((with_reducible refine gQc (f := 26) rfl ?_); refine goesL_ (some 27) rfl rfl Try.func26 (by kernel_rfl) rfl #[.slice A718_1 ((rd_T63 l0 x5_1).f1).length c718_1, .int .i64 (wrap64 (x1_1 + 1))] rfl tL ?_; (with_reducible refine (laws_heldInt64S.calls k1 _ _ ((rd_T63 l0 x5_1).f1) (wrap64 (x1_1 + 1)) t720 _ ?s1 ?s2 A6.out).mono ?_); (case s1 => exact tC HR719_1.out); (case s2 => exact HC719_1.out); rintro e w' ⟨rfl, ⟨nd, rfl⟩⟩; refine ⟨_, rfl, ?_⟩))
  go_roundg k1
  case measure => have := HK1.out; omega
  case rel => exact ⟨(t720), (wrap64 (x5_1 + 1)), tS, tS, H', ⟨by have := HK1.out; omega⟩, tD⟩
end Go.Proofs.Ytbalkaphibnpcaa.P
