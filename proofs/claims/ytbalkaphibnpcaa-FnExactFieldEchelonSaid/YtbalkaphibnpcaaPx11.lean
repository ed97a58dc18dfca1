/- Functions of the program and what they tell, as the printing program wrote it. -/
import Derived.Test.YtbalkaphibnpcaaPx0
import Derived.Test.YtbalkaphibnpcaaPx2
import Derived.Test.YtbalkaphibnpcaaPx10
namespace Go.Proofs.Ytbalkaphibnpcaa.P
open Go.Shelf Go.RowKit Go.Proofs.YtbalkaphibnpcaaW.PrintWords Go.Proofs.YtbalkaphibnpcaaW.PrintLast Go.Proofs.YtbalkaphibnpcaaW.PrintMore
attribute [local go_sem] max2_int min2_int max_two min_two max_three min_three max_four min_four
set_option linter.unusedVariables false
set_option linter.unusedSimpArgs false
set_option maxHeartbeats 8000000
set_option maxRecDepth 100000
mutual
def spec_l04Echelon.l0 : Nat → Int → List (List Int) → List (List Int) → Int → Int → Int → Option ((List (List Int)))
  | 0, _, _, _, _, _, _ => none
  | k + 1, x1, x2, x7, x8, x149000, x149001 => if x8 < (x2.length : Int) then (if 0 ≤ x8 then ((spec_l00Own.f (rd_L1 x2 x8)).bind fun t153 => (if x7.length < 5864062014805 then (spec_l04Echelon.l0 k x1 x2 (x7 ++ [t153]) (wrap64 (x8 + 1)) x149000 x149001) else (none))) else (none)) else (spec_l04Echelon.l1 k x1 x7 0 0 x149000 x149001)
def spec_l04Echelon.l1 : Nat → Int → List (List Int) → Int → Int → Int → Int → Option ((List (List Int)))
  | 0, _, _, _, _, _, _ => none
  | k + 1, x1, x7, x9, x10, x149000, x149001 => if x10 < x1 then (spec_l04Echelon.l2 k x1 x7 x9 x10 x9 x149000 x149001) else (if 0 ≤ x9 then (if x9 ≤ (x7.length : Int) then (some (x7.take (x9 : Int).toNat)) else (none)) else (none))
def spec_l04Echelon.j3 : Nat → Int → List (List Int) → Int → Int → Int → Int → Int → Option ((List (List Int)))
  | 0, _, _, _, _, _, _, _ => none
  | k + 1, x1, x7, x9, x10, x11, x149000, x149001 => if x11 = (x7.length : Int) then (spec_l04Echelon.l1 k x1 x7 x9 (wrap64 (x10 + 1)) x149000 x149001) else (if 0 ≤ x11 then (if x11 < (x7.length : Int) then (if 0 ≤ x9 then (if x9 < (x7.length : Int) then (if 0 ≤ x1 then (if (x1 : Int).toNat ≤ 35184372088832 then (if 0 ≤ x10 then (if x10 < ((rd_L1 x7 x11).length : Int) then ((spec_l01Inverse.f k x149000 x149001 (rd (rd_L1 x7 x11) x10)).bind fun t171 => ((spec_l04Add.f k x149000 x149001 (List.replicate (x1 : Int).toNat 0) (rd_L1 x7 x11) t171).bind fun t172 => (spec_l04Echelon.l3 k x1 ((x7.set (x11 : Int).toNat (rd_L1 x7 x9)).set (x9 : Int).toNat t172) x9 x10 0 x149000 x149001))) else (none)) else (none)) else (none)) else (none)) else (none)) else (none)) else (none)) else (none))
def spec_l04Echelon.l3 : Nat → Int → List (List Int) → Int → Int → Int → Int → Int → Option ((List (List Int)))
  | 0, _, _, _, _, _, _, _ => none
  | k + 1, x1, x7, x9, x10, x13, x149000, x149001 => if x13 < (x7.length : Int) then (if x13 = x9 then (spec_l04Echelon.l3 k x1 x7 x9 x10 (wrap64 (x13 + 1)) x149000 x149001) else (if 0 ≤ x13 then (if 0 ≤ x10 then (if x10 < ((rd_L1 x7 x13).length : Int) then (if (rd (rd_L1 x7 x13) x10) = 0 then (spec_l04Echelon.l3 k x1 x7 x9 x10 (wrap64 (x13 + 1)) x149000 x149001) else (if 0 ≤ x9 then (if x9 < (x7.length : Int) then ((spec_l04Add.f k x149000 x149001 (rd_L1 x7 x13) (rd_L1 x7 x9) (rd (rd_L1 x7 x13) x10)).bind fun t182 => (spec_l04Echelon.l3 k x1 (x7.set (x13 : Int).toNat t182) x9 x10 (wrap64 (x13 + 1)) x149000 x149001)) else (none)) else (none))) else (none)) else (none)) else (none))) else (spec_l04Echelon.l1 k x1 x7 (wrap64 (x9 + 1)) (wrap64 (x10 + 1)) x149000 x149001)
def spec_l04Echelon.l2 : Nat → Int → List (List Int) → Int → Int → Int → Int → Int → Option ((List (List Int)))
  | 0, _, _, _, _, _, _, _ => none
  | k + 1, x1, x7, x9, x10, x11, x149000, x149001 => if x11 < (x7.length : Int) then (if 0 ≤ x11 then (if 0 ≤ x10 then (if x10 < ((rd_L1 x7 x11).length : Int) then (if (rd (rd_L1 x7 x11) x10) = 0 then (spec_l04Echelon.l2 k x1 x7 x9 x10 (wrap64 (x11 + 1)) x149000 x149001) else (spec_l04Echelon.j3 k x1 x7 x9 x10 x11 x149000 x149001)) else (none)) else (none)) else (none)) else (spec_l04Echelon.j3 k x1 x7 x9 x10 x11 x149000 x149001)
end
def spec_l04Echelon.f (k : Nat) (a0_0 : Int) (a0_1 : Int) (a1 : Int) (l2 : List (List Int)) : Option ((List (List Int))) := spec_l04Echelon.l0 k a1 l2 (([] : List (List Int))) 0 a0_0 a0_1
theorem spec_l04Echelon.mono_l : ∀ k, (∀ y0 y1 y2 y3 y4 y5, LeO (spec_l04Echelon.l0 k y0 y1 y2 y3 y4 y5) (spec_l04Echelon.l0 (k + 1) y0 y1 y2 y3 y4 y5)) ∧ (∀ y0 y1 y2 y3 y4 y5, LeO (spec_l04Echelon.l1 k y0 y1 y2 y3 y4 y5) (spec_l04Echelon.l1 (k + 1) y0 y1 y2 y3 y4 y5)) ∧ (∀ y0 y1 y2 y3 y4 y5 y6, LeO (spec_l04Echelon.j3 k y0 y1 y2 y3 y4 y5 y6) (spec_l04Echelon.j3 (k + 1) y0 y1 y2 y3 y4 y5 y6)) ∧ (∀ y0 y1 y2 y3 y4 y5 y6, LeO (spec_l04Echelon.l3 k y0 y1 y2 y3 y4 y5 y6) (spec_l04Echelon.l3 (k + 1) y0 y1 y2 y3 y4 y5 y6)) ∧ (∀ y0 y1 y2 y3 y4 y5 y6, LeO (spec_l04Echelon.l2 k y0 y1 y2 y3 y4 y5 y6) (spec_l04Echelon.l2 (k + 1) y0 y1 y2 y3 y4 y5 y6))
 | 0 => ⟨fun _ _ _ _ _ _ r h => by simp [spec_l04Echelon.l0] at h, fun _ _ _ _ _ _ r h => by simp [spec_l04Echelon.l1] at h, fun _ _ _ _ _ _ _ r h => by simp [spec_l04Echelon.j3] at h, fun _ _ _ _ _ _ _ r h => by simp [spec_l04Echelon.l3] at h, fun _ _ _ _ _ _ _ r h => by simp [spec_l04Echelon.l2] at h⟩
 | k + 1 => by
  obtain ⟨ih0, ih1, ih2, ih3, ih4⟩ := spec_l04Echelon.mono_l k
  refine ⟨?_, ?_, ?_, ?_, ?_⟩ <;> intros <;> first | unfold spec_l04Echelon.l0 | unfold spec_l04Echelon.l1 | unfold spec_l04Echelon.j3 | unfold spec_l04Echelon.l3 | unfold spec_l04Echelon.l2
  all_goals repeat' first
   | (with_reducible first | apply ih0 | apply ih1 | apply ih2 | apply ih3 | apply ih4 | apply spec_l01Inverse.mono | apply spec_l04Add.mono | exact LeO.refl _ | exact LeO.none _ | refine LeO.ite ?_ ?_ | refine LeO.bind ?_ (fun _ => ?_))
   | exact LeO.none _
   | refine LeO.ite ?_ ?_
   | refine LeO.bind ?_ (fun _ => ?_)
theorem spec_l04Echelon.mono : ∀ a0 a1 a2 a3 k, LeO (spec_l04Echelon.f k a0 a1 a2 a3) (spec_l04Echelon.f (k + 1) a0 a1 a2 a3) := by
 intro a0 a1 a2 a3 k
 obtain ⟨ih0, ih1, ih2, ih3, ih4⟩ := spec_l04Echelon.mono_l k
 unfold spec_l04Echelon.f
 repeat' first
  | (with_reducible first | apply ih0 | apply ih1 | apply ih2 | apply ih3 | apply ih4 | apply spec_l01Inverse.mono | apply spec_l04Add.mono | exact LeO.refl _ | exact LeO.none _ | refine LeO.ite ?_ ?_ | refine LeO.bind ?_ (fun _ => ?_))
  | exact LeO.none _
  | refine LeO.ite ?_ ?_
  | refine LeO.bind ?_ (fun _ => ?_)
def spec_l04Echelon.T16 : Bool × List (List Nat × List Nat) := (true, [([], []), ([], []), ([], []), ([], []), ([3, 3], [3]), ([], []), ([], []), ([], []), ([], []), ([7, 8], [7, 8]), ([9], [9]), ([6, 10], [6, 10]), ([2, 4, 5, 11, 11], [2, 4, 5, 11]), ([0, 1, 0, 1, 2, 3, 4, 5, 6, 7, 8, 9, 10, 11, 12], [0, 1]), ([13, 12, 12, 0, 1, 2, 3, 4, 5, 6, 7, 8, 9, 10, 11, 12], [12, 13])])
def spec_l04Echelon.B16 : List Nat := [0, 0, 0, 0, 8, 0, 0, 0, 0, 384, 896, 1984, 4092, 8191, 16383]
theorem spec_l04Echelon.tab16 : rtab .any (opsOf Try.f42 16) = spec_l04Echelon.T16 := by kernel_rfl
theorem spec_l04Echelon.bits16 : waitsOk spec_l04Echelon.T16.2 spec_l04Echelon.B16 = true := by kernel_rfl
def spec_l04Echelon.T21 : Bool × List (List Nat × List Nat) := (true, [([], []), ([], []), ([], []), ([], []), ([], []), ([3, 4], [3, 4]), ([5], [5]), ([], []), ([], []), ([7, 8], [7, 8]), ([9], [9]), ([], []), ([], []), ([11, 12], [11, 12]), ([13], [13]), ([], []), ([14, 15], [14, 15]), ([16], [16]), ([2, 6, 10, 17], [2, 6, 10, 17]), ([0, 1, 0, 1, 2, 3, 4, 5, 6, 7, 8, 9, 10, 11, 12, 13, 14, 15, 16, 17, 18], [0, 1]), ([19, 18, 18, 0, 1, 2, 3, 4, 5, 6, 7, 8, 9, 10, 11, 12, 13, 14, 15, 16, 17, 18], [18, 19])])
def spec_l04Echelon.B21 : List Nat := [0, 0, 0, 0, 0, 24, 56, 0, 0, 384, 896, 0, 0, 6144, 14336, 0, 63488, 129024, 262140, 524287, 1048575]
theorem spec_l04Echelon.tab21 : rtab .any (opsOf Try.f42 21) = spec_l04Echelon.T21 := by kernel_rfl
theorem spec_l04Echelon.bits21 : waitsOk spec_l04Echelon.T21.2 spec_l04Echelon.B21 = true := by kernel_rfl
theorem spec_l04Echelon.calls (k : Nat) (a0_0 : Int) (a0_1 : Int) (a1 : Int) (A2 : Option Addr) (c2 : Nat) (l2 : List (List Int)) (r : List (List Int)) (w : World) (hr2 : Kd.C (Kd.slice 2 (Kd.int .i64)) w A2 l2.length l2) (hc2 : l2.length ≤ c2) (h : spec_l04Echelon.f k a0_0 a0_1 a1 l2 = some r) :
 Calls Try.prog 42 #[.agg #[.int .i64 a0_0, .int .i64 a0_1], .int .i64 a1, .slice A2 l2.length c2] w fun e w' => ∃ v0_ : Value, e = .returned (v0_) ∧ Kd.N (Kd.slice 2 (Kd.int .i64)) 38 w' w.heap.size (fun k_ => (w.heap.size ≤ k_)) v0_ r ∧ Below w.heap.size w w' := by
 have hu28 := Try.underlying28
 have HR2 := Aq.mk hr2
 have HC2 := Aq.mk hc2
 clear hr2 hc2
 have HB := Aq.mk (Below.refl w.heap.size w)
 have H : (spec_l04Echelon.l0 k a1 l2 (([] : List (List Int))) 0 a0_0 a0_1) = some r := h
 clear h
 obtain ⟨y149, hy149⟩ : ∃ y_ : List (List Int), y_ = (([] : List (List Int))) := ⟨_, rfl⟩
 replace H : (spec_l04Echelon.l0 k a1 l2 y149 0 a0_0 a0_1) = some r := by first | (rw [hy149]; with_reducible exact H) | (have H2_ := (Option.bind_some _ _).symm.trans H; rw [hy149]; with_reducible exact H2_) | (have H2_ := (Option.bind_some _ _).symm.trans H; with_reducible exact H2_) | with_reducible exact H | (rw [hy149]; exact H) | exact H
 have Ny149 := Aq.mk hy149
 clear hy149
 replace H' := Aq.mk H
 clear H
 go_enter Try.func42, Try.ntmps42
 go_wp2_with (first | ((with_reducible refine gQd (N := 3) rfl ?_); refine xQe ?hg (N := 3) ?hd (cs := #[.int .i64 a0_0, .int .i64 a0_1]) (t := 28) ?hr ?_; (case hd => rfl); (case hg => rfl); (case hr => exact tH); intro gb148 hg w4 hbox hb; refine qM4 (bQT tB hb) hbox (tZ w hg) (tZ w hg) ?_; clear HB; intro HB BK148 GW148 GE148; clear hb hbox hg) | ((with_reducible refine gQd (N := 14) rfl ?_); refine Kd.N_lit (Kd.slice 2 (Kd.int .i64)) _ 38 ?hg (N' := 14) ?hd (xs := ([] : List (List Int))) (inner := []) (ok := (fun k_ => (w.heap.size ≤ k_) ∧ k_ ≠ gb148)) (okp := (fun k_ => (w.heap.size ≤ k_) ∧ k_ ≠ gb148)) ?hr ?hp (fun _ hk => hk) ((show ∀ k_, w4.heap.size ≤ k_ → (fun k_ => (w.heap.size ≤ k_) ∧ k_ ≠ gb148) k_ from fun k_ hk => ⟨(Nat.le_trans (bQZ tB) hk), Kd.freshB (g := gb148) (o := .cells #[.int .i64 a0_0, .int .i64 a0_1] 28 (0, 0)) (tG BK148.out) k_ hk⟩) _ (Nat.le_refl _)) (Below.refl _ _) (Nat.le_refl _) (by simp) ?_; (case hd => rfl); (case hg => rfl); (case hr => exact tH); (case hp => exact (Reps.none _ _)); intro v150 w5 ho6 hb hg_ hnew_; clear hg_ hnew_; (first | rw [← Ny149.out] at ho6 | (simp only [Int.reduceToNat] at ho6; rw [← Ny149.out] at ho6)); refine qM3 (Kd.N_lower ho6 (bQZ tB)) (tQ BK148.out hb) (bQT tB hb) ?_; clear BK148 HB; intro HO151 BK148 HB; clear hb ho6))
 go_loopg [7, 8] k (fun kq v7 v8 w' => ∃ (x7_1 : List (List Int)) (x8_1 : Int), v8 = .int .i64 x8_1 ∧ Aq (spec_l04Echelon.l0 kq a1 l2 x7_1 x8_1 a0_0 a0_1 = some r) ∧ Aq (kq ≤ k) ∧ Aq (Kd.N (Kd.slice 2 (Kd.int .i64)) 38 w' w.heap.size (fun k_ => (w.heap.size ≤ k_) ∧ k_ ≠ gb148) v7 x7_1) ∧ Aq (w'.heap[gb148]? = some (.cells #[.int .i64 a0_0, .int .i64 a0_1] 28 (0, 0))) ∧ Aq (Below w.heap.size w w'))
 case atStart => exact ⟨(y149), (0), tS, H', ⟨Nat.le_refl _⟩, ⟨by (with_reducible repeat (first | apply Kd.N_alloc | apply Kd.N_drewN | apply Kd.N_drew)); exact HO151.out⟩, ⟨tG BK148.out⟩, ⟨tB⟩⟩
 clear H'
 try clear c2
 obtain ⟨x7_1, x8_1, rfl, HA, HK1, HO_7, BK148, HB⟩ := hrel
 cases gk with
 | zero => exact absurd HA.out (by simp [spec_l04Echelon.l0])
 | succ k1 =>
  have H := HA.out
  clear HA
  simp only [spec_l04Echelon.l0] at H
  by_cases c7 : x8_1 < (l2.length : Int)
  ·rw [if_pos c7] at H
   have c7b0 := decide_eq_true c7
   clear c7
   by_cases c8 : 0 ≤ x8_1
   rotate_left
   ·rw [if_neg c8] at H
    exact absurd H (by simp)
   rw [if_pos c8] at H
   have c8b0 := decide_eq_true c8
   clear c8
   obtain ⟨t153, A9, H⟩ := qBd H
   by_cases c10 : x7_1.length < 5864062014805
   rotate_left
   ·rw [if_neg c10] at H
    exact absurd H (by simp)
   rw [if_pos c10] at H
   have LMc10 := Aq.mk c10
   clear c10
   obtain ⟨y156, hy156⟩ : ∃ y_ : List (List Int), y_ = (x7_1 ++ [t153]) := ⟨_, rfl⟩
   replace H : (spec_l04Echelon.l0 k1 a1 l2 y156 (wrap64 (x8_1 + 1)) a0_0 a0_1) = some r := by first | (rw [hy156]; with_reducible exact H) | (have H2_ := (Option.bind_some _ _).symm.trans H; rw [hy156]; with_reducible exact H2_) | (have H2_ := (Option.bind_some _ _).symm.trans H; with_reducible exact H2_) | with_reducible exact H | (rw [hy156]; exact H) | exact H
   have Ny156 := Aq.mk hy156
   clear hy156
   replace H' := Aq.mk H
   clear H
   have p152 : 0 ≤ (x8_1 : Int) := of_decide_eq_true tA
   have q152 : x8_1 < (l2.length : Int) := of_decide_eq_true tA
   obtain ⟨ad152, A152_0, c152_0, e152, hx152_0, hl152_0, hi152_0⟩ := at_L1 HR2.out x8_1 p152 q152
   cases e152
   replace hx152_0 := (HB.out.cell (World.block_lt_of_cell? w _ hx152_0)).trans hx152_0
   have HR152_0 := Aq.mk hi152_0
   have HC152_0 := Aq.mk hl152_0
   clear hi152_0 hl152_0
   replace p152 := eq_true p152
   replace q152 := eq_true q152
   go_wp2_with (first | ((with_reducible refine gQc (f := 64) rfl ?_); refine goesL_ (some 26) rfl rfl Try.func64 (by kernel_rfl) rfl #[.slice A152_0 (rd_L1 l2 x8_1).length c152_0] rfl tL ?_; (with_reducible refine (spec_l00Own.calls _ _ (rd_L1 l2 x8_1) t153 _ ?s1 ?s2 A9.out).mono ?_); (case s1 => exact tC ((Kd.C_below HR152_0.out HB.out))); (case s2 => exact HC152_0.out); rintro e w11 ⟨v154, rfl, ho0, hb⟩; refine ⟨_, rfl, ?_⟩; refine qM4 (Kd.N_elder' (by (with_reducible repeat (first | apply Kd.N_alloc | apply Kd.N_drewN | apply Kd.N_drew)); exact HO_7.out) (Kd.R_base ho0) hb) (Kd.R_lower (Kd.R_newM (M := fun k_ => (w.heap.size ≤ k_)) ho0 (bQZ tB) (fun k_ h_ => h_)) (bQZ tB)) (tQ BK148.out hb) (bQT tB hb) ?_; clear HO_7 BK148 HB; intro HO_7 HO155 BK148 HB; (try clear hb); (try clear hb2); (try clear hk); (try clear hi); (try clear ho0); obtain ⟨Ao13, co13, eo13⟩ := Kd.R_slice HO155.out; subst eo13) | ((with_reducible refine gate_builtin (b := .append) (xs := #[.tmp 21, .tmp 27]) rfl ?_); at_builtin; refine Kd.N_append (Kd.slice 2 (Kd.int .i64)) (w0 := w) w.heap.size rfl (.tmp 21) (.tmp 27) 24 38 (.slice none 0 0) 24 rfl Try.underlying24 info38 rfl (by decide) (by omega) u7 x7_1 t153 [.slice Ao13 t153.length co13] (fun k_ => (w.heap.size ≤ k_) ∧ k_ ≠ gb148) (fun k_ => ((fun k_ => (w.heap.size ≤ k_) ∧ k_ ≠ gb148)) k_ ∧ some k_ ≠ (u7 : Value).ownBlock) rfl rfl ?aP (fun _ hk => hk) ?aF ?aO ?aB ?aS ?aL ?_; (case aP => exact (fk_row (Kd.R_mono (ok' := (fun k_ => ((fun k_ => (w.heap.size ≤ k_) ∧ k_ ≠ gb148)) k_ ∧ some k_ ≠ (u7 : Value).ownBlock)) (Kd.R_types (Kd.R_apart' (HO155.out) (Kd.N_typed HO_7.out) (by decide)) BK148.out (by decide)) (fun k_ hk => ⟨⟨hk.1.1.1, hk.2⟩, hk.1.2⟩)))); (case aB => exact tB); (case aF => exact (fun k_ hk => ⟨(Nat.le_trans (bQZ tB) hk), Kd.freshB (g := gb148) (o := .cells #[.int .i64 a0_0, .int .i64 a0_1] 28 (0, 0)) (tG BK148.out) k_ hk⟩)); (case aO => exact (by (with_reducible repeat (first | apply Kd.N_alloc | apply Kd.N_drewN | apply Kd.N_drew)); exact Kd.N_mono HO_7.out (fun _ hk => ⟨hk.1.1, hk.1.2⟩))); (case aS => exact (bQZ tB)); (case aL => have := LMc10.out; omega); intro v157 w12 ho hb hg hat; rw [← Ny156.out] at ho; refine qM3 (blk_grown (g := gb148) (o := .cells #[.int .i64 a0_0, .int .i64 a0_1] 28 (0, 0)) (tG BK148.out) hg (Kd.N_ne HO_7.out BK148.out (by decide))) hb ho ?_; clear BK148 HB HO_7 HO155; intro BK148 HB HO158; clear ho hb hg hat))
   go_roundg k1
   case measure => have := HK1.out; omega
   case rel => exact ⟨(y156), (wrap64 (x8_1 + 1)), tS, H', ⟨by have := HK1.out; omega⟩, ⟨by (with_reducible repeat (first | apply Kd.N_alloc | apply Kd.N_drewN | apply Kd.N_drew)); exact HO158.out⟩, ⟨tG BK148.out⟩, ⟨tB⟩⟩
  rw [if_neg c7] at H
  have c7b0 := decide_eq_false c7
  clear c7
  replace H' := Aq.mk H
  clear H
  go_wp2
  go_loopg [9, 10] k1 (fun kq v9 v10 w' => ∃ (x7_2 : List (List Int)) (x9_2 : Int) (x10_2 : Int), v9 = .int .i64 x9_2 ∧ v10 = .int .i64 x10_2 ∧ Aq (spec_l04Echelon.l1 kq a1 x7_2 x9_2 x10_2 a0_0 a0_1 = some r) ∧ Aq (kq ≤ k1) ∧ Aq (Kd.N (Kd.slice 2 (Kd.int .i64)) 38 w' w.heap.size (fun k_ => (w.heap.size ≤ k_) ∧ k_ ≠ gb148) u7 x7_2) ∧ Aq (w'.heap[gb148]? = some (.cells #[.int .i64 a0_0, .int .i64 a0_1] 28 (0, 0))) ∧ Aq (Below w.heap.size w w'))
  case atStart => exact ⟨(x7_1), (0), (0), tS, tS, H', ⟨Nat.le_refl _⟩, ⟨by (with_reducible repeat (first | apply Kd.N_alloc | apply Kd.N_drewN | apply Kd.N_drew)); exact HO_7.out⟩, ⟨tG BK148.out⟩, ⟨tB⟩⟩
  clear H'
  try clear c2
  try clear c7
  try clear c7b0
  try clear c8
  try clear c8b0
  try clear c10
  try clear hx152_0
  try clear p152
  try clear q152
  obtain ⟨x7_2, x9_2, x10_2, rfl, rfl, HA, HK2, HO_7, BK148, HB⟩ := hrel
  cases gk with
  | zero => exact absurd HA.out (by simp [spec_l04Echelon.l1])
  | succ k2 =>
   have H := HA.out
   clear HA
   simp only [spec_l04Echelon.l1] at H
   by_cases c14 : x10_2 < a1
   rotate_left
   ·rw [if_neg c14] at H
    have c14b0 := decide_eq_false c14
    clear c14
    by_cases c62 : 0 ≤ x9_2
    rotate_left
    ·rw [if_neg c62] at H
     exact absurd H (by simp)
    rw [if_pos c62] at H
    have c62b0 := eq_true c62
    have c62b1 := decide_eq_true c62
    clear c62
    by_cases c63 : x9_2 ≤ (x7_2.length : Int)
    rotate_left
    ·rw [if_neg c63] at H
     exact absurd H (by simp)
    rw [if_pos c63] at H
    have c63b0 := eq_true c63
    have c63b1 := decide_eq_true c63
    clear c63
    obtain ⟨y159, hy159⟩ : ∃ y_ : List (List Int), y_ = (x7_2.take (x9_2 : Int).toNat) := ⟨_, rfl⟩
    replace H : (some y159) = some r := by first | (rw [hy159]; with_reducible exact H) | (have H2_ := (Option.bind_some _ _).symm.trans H; rw [hy159]; with_reducible exact H2_) | (have H2_ := (Option.bind_some _ _).symm.trans H; with_reducible exact H2_) | with_reducible exact H | (rw [hy159]; exact H) | exact H
    have Ny159 := Aq.mk hy159
    clear hy159
    obtain rfl := Option.some.inj H
    obtain ⟨Ao64, co64, eo64⟩ := Kd.N_slice HO_7.out
    subst eo64
    have q65 : (x9_2 : Int) ≤ ((x7_2.length : Int) : Int) := of_decide_eq_true tA
    obtain ⟨i065, hi065, _, hsz65, _⟩ := info_parts info38
    have hcut65 := cut_to (P := Try.prog) 24 38 .i64 Try.underlying24 hi065 Ao64 x7_2.length co64 x9_2 (of_decide_eq_true tA) q65 (Kd.N_reads' HO_7.out).2.1
    have hr65 := Kd.N_take (m := (x9_2 : Int).toNat) HO_7.out (by omega)
    have hy65 : y159.length = (x9_2 : Int).toNat := (by rw [Ny159.out, List.length_take]; omega)
    rw [← Ny159.out] at hr65
    rw [← hy65] at hr65 hcut65
    clear hy65 hi065 hsz65 HO_7
    have HO161 := Aq.mk hr65
    clear hr65
    replace q65 := eq_true q65
    go_wp2
    go_ret
    exact ⟨_, tE, by (with_reducible repeat (first | apply Kd.N_alloc | apply Kd.N_drewN | apply Kd.N_drew)); exact Kd.N_mono HO161.out (fun _ hk => hk.1), tB⟩
   rw [if_pos c14] at H
   have c14b0 := decide_eq_true c14
   clear c14
   have HC15 := Aq.mk H
   clear H
   go_upto_block 4 with (fail)
   go_cut [11] (fun v11 wc => ∃ (kq : Nat) (x11_14 : Int), v11 = .int .i64 x11_14 ∧ Aq (spec_l04Echelon.j3 kq a1 x7_2 x9_2 x10_2 x11_14 a0_0 a0_1 = some r) ∧ Aq (kq ≤ k2) ∧ Aq (Kd.N (Kd.slice 2 (Kd.int .i64)) 38 wc w.heap.size (fun k_ => (w.heap.size ≤ k_) ∧ k_ ≠ gb148) u7 x7_2) ∧ Aq (wc.heap[gb148]? = some (.cells #[.int .i64 a0_0, .int .i64 a0_1] 28 (0, 0))) ∧ Aq (Below w.heap.size w wc))
   case first =>
    have H := HC15.out
    clear HC15
    replace H' := Aq.mk H
    clear H
    go_wp2
    go_loopg [11] k2 (fun kq v11 w' => ∃ (x11_3 : Int), v11 = .int .i64 x11_3 ∧ Aq (spec_l04Echelon.l2 kq a1 x7_2 x9_2 x10_2 x11_3 a0_0 a0_1 = some r) ∧ Aq (kq ≤ k2) ∧ Aq (Kd.N (Kd.slice 2 (Kd.int .i64)) 38 w' w.heap.size (fun k_ => (w.heap.size ≤ k_) ∧ k_ ≠ gb148) u7 x7_2) ∧ Aq (w'.heap[gb148]? = some (.cells #[.int .i64 a0_0, .int .i64 a0_1] 28 (0, 0))) ∧ Aq (Below w.heap.size w w'))
    case atStart => exact ⟨(x9_2), tS, H', ⟨Nat.le_refl _⟩, ⟨by (with_reducible repeat (first | apply Kd.N_alloc | apply Kd.N_drewN | apply Kd.N_drew)); exact HO_7.out⟩, ⟨tG BK148.out⟩, ⟨tB⟩⟩
    clear H'
    try clear c2
    try clear c7
    try clear c7b0
    try clear c8
    try clear c8b0
    try clear c10
    try clear c14
    try clear c14b0
    try clear hx152_0
    try clear p152
    try clear q152
    obtain ⟨x11_3, rfl, HA, HK3, HO_7, BK148, HB⟩ := hrel
    cases gk with
    | zero => exact absurd HA.out (by simp [spec_l04Echelon.l2])
    | succ k3 =>
     have H := HA.out
     clear HA
     simp only [spec_l04Echelon.l2] at H
     by_cases c16 : x11_3 < (x7_2.length : Int)
     rotate_left
     ·rw [if_neg c16] at H
      have c16b0 := decide_eq_false c16
      clear c16
      (first | rw [c16b0] | (simp only [i64_w, i32_w]; rw [c16b0]) | skip)
      replace H' := Aq.mk H
      clear H
      obtain ⟨Ao23, co23, eo23⟩ := Kd.N_slice HO_7.out
      subst eo23
      go_wp2
      go_meet
      case rel => exact ⟨_, (x11_3), tS, H', ⟨by have := HK1.out; have := HK2.out; have := HK3.out; first | omega | exact Nat.le_refl _⟩, ⟨by (with_reducible repeat (first | apply Kd.N_alloc | apply Kd.N_drewN | apply Kd.N_drew)); exact HO_7.out⟩, ⟨tG BK148.out⟩, ⟨tB⟩⟩
     rw [if_pos c16] at H
     have c16b0 := decide_eq_true c16
     clear c16
     (first | rw [c16b0] | (simp only [i64_w, i32_w]; rw [c16b0]) | skip)
     by_cases c17 : 0 ≤ x11_3
     rotate_left
     ·rw [if_neg c17] at H
      exact absurd H (by simp)
     rw [if_pos c17] at H
     have c17b0 := decide_eq_true c17
     clear c17
     by_cases c18 : 0 ≤ x10_2
     rotate_left
     ·rw [if_neg c18] at H
      exact absurd H (by simp)
     rw [if_pos c18] at H
     have c18b0 := decide_eq_true c18
     clear c18
     by_cases c19 : x10_2 < ((rd_L1 x7_2 x11_3).length : Int)
     rotate_left
     ·rw [if_neg c19] at H
      exact absurd H (by simp)
     rw [if_pos c19] at H
     have c19b0 := decide_eq_true c19
     clear c19
     by_cases c20 : (rd (rd_L1 x7_2 x11_3) x10_2) = 0
     rotate_left
     ·rw [if_neg c20] at H
      have c20b0 := beq_eq_false_iff_ne.mpr c20
      have c20b1 := bne_iff_ne.mpr c20
      replace H' := Aq.mk H
      clear H
      obtain ⟨Ao22, co22, eo22⟩ := Kd.N_slice HO_7.out
      subst eo22
      have p162 : 0 ≤ (x11_3 : Int) := of_decide_eq_true tA
      have q162 : x11_3 < (x7_2.length : Int) := of_decide_eq_true tA
      obtain ⟨ad162, A162_0, c162_0, e162, hx162_0, hl162_0, hi162_0⟩ := at_L1 (Kd.N_reads' HO_7.out).2.2 x11_3 p162 q162
      cases e162
      obtain ⟨ce162, hce162, hMe162, hcc162⟩ := Kd.N_get HO_7.out [] x11_3 p162 (by first | exact q162 | exact of_decide_eq_true tA | (have e_ := (Kd.N_reads' HO_7.out).1; omega))
      obtain ⟨ua162_0, uc162_0, rfl, ul162_0, ge162_0⟩ := Kd.FK_slice_open hMe162
      have hv162_0 := hcc162 0 _ rfl
      rw [Nat.add_zero, show ((Kd.slice 2 (Kd.int .i64))).sz = 1 from rfl, Nat.mul_one] at hv162_0
      replace hv162_0 := Option.some.inj (hv162_0.symm.trans hx162_0)
      injection hv162_0 with hva_ hvn_ hvc_
      rw [hva_] at ge162_0
      rw [hvc_] at ul162_0
      have HL162_0 := Aq.mk (show Kd.V (Kd.int .i64) 2 _ w.heap.size _ _ (rd_L1 x7_2 x11_3) from Kd.V_mk ul162_0 ge162_0)
      clear hva_ hvn_ hvc_ ge162_0 ul162_0
      clear hcc162 hce162
      have HR162_0 := Aq.mk hi162_0
      have HC162_0 := Aq.mk hl162_0
      clear hi162_0 hl162_0
      replace p162 := eq_true p162
      replace q162 := eq_true q162
      have p163 : 0 ≤ (x10_2 : Int) := of_decide_eq_true tA
      have q163 : x10_2 < ((rd_L1 x7_2 x11_3).length : Int) := of_decide_eq_true tA
      obtain ⟨ad163, e163, hx163_0⟩ := Kd.at_int (by repeat (first | (with_reducible exact HR162_0.out) | (with_reducible refine Kd.CqA ?_ _) | (with_reducible refine Kd.CqN ?_ _) | (with_reducible refine Kd.CqD ?_) | exact HR162_0.out)) x10_2 p163 q163
      cases e163
      replace p163 := eq_true p163
      replace q163 := eq_true q163
      go_wp2
      go_meet
      case rel => exact ⟨_, (x11_3), tS, H', ⟨by have := HK1.out; have := HK2.out; have := HK3.out; first | omega | exact Nat.le_refl _⟩, ⟨by (with_reducible repeat (first | apply Kd.N_alloc | apply Kd.N_drewN | apply Kd.N_drew)); exact HO_7.out⟩, ⟨tG BK148.out⟩, ⟨tB⟩⟩
     rw [if_pos c20] at H
     have c20b0 := beq_iff_eq.mpr c20
     have c20b1 := bne_eq_false_iff_eq.mpr c20
     clear c20
     replace H' := Aq.mk H
     clear H
     obtain ⟨Ao21, co21, eo21⟩ := Kd.N_slice HO_7.out
     subst eo21
     have p162 : 0 ≤ (x11_3 : Int) := of_decide_eq_true tA
     have q162 : x11_3 < (x7_2.length : Int) := of_decide_eq_true tA
     obtain ⟨ad162, A162_0, c162_0, e162, hx162_0, hl162_0, hi162_0⟩ := at_L1 (Kd.N_reads' HO_7.out).2.2 x11_3 p162 q162
     cases e162
     obtain ⟨ce162, hce162, hMe162, hcc162⟩ := Kd.N_get HO_7.out [] x11_3 p162 (by first | exact q162 | exact of_decide_eq_true tA | (have e_ := (Kd.N_reads' HO_7.out).1; omega))
     obtain ⟨ua162_0, uc162_0, rfl, ul162_0, ge162_0⟩ := Kd.FK_slice_open hMe162
     have hv162_0 := hcc162 0 _ rfl
     rw [Nat.add_zero, show ((Kd.slice 2 (Kd.int .i64))).sz = 1 from rfl, Nat.mul_one] at hv162_0
     replace hv162_0 := Option.some.inj (hv162_0.symm.trans hx162_0)
     injection hv162_0 with hva_ hvn_ hvc_
     rw [hva_] at ge162_0
     rw [hvc_] at ul162_0
     have HL162_0 := Aq.mk (show Kd.V (Kd.int .i64) 2 _ w.heap.size _ _ (rd_L1 x7_2 x11_3) from Kd.V_mk ul162_0 ge162_0)
     clear hva_ hvn_ hvc_ ge162_0 ul162_0
     clear hcc162 hce162
     have HR162_0 := Aq.mk hi162_0
     have HC162_0 := Aq.mk hl162_0
     clear hi162_0 hl162_0
     replace p162 := eq_true p162
     replace q162 := eq_true q162
     have p163 : 0 ≤ (x10_2 : Int) := of_decide_eq_true tA
     have q163 : x10_2 < ((rd_L1 x7_2 x11_3).length : Int) := of_decide_eq_true tA
     obtain ⟨ad163, e163, hx163_0⟩ := Kd.at_int (by repeat (first | (with_reducible exact HR162_0.out) | (with_reducible refine Kd.CqA ?_ _) | (with_reducible refine Kd.CqN ?_ _) | (with_reducible refine Kd.CqD ?_) | exact HR162_0.out)) x10_2 p163 q163
     cases e163
     replace p163 := eq_true p163
     replace q163 := eq_true q163
     go_wp2
     go_roundg k3
     case measure => have := HK1.out; have := HK2.out; have := HK3.out; omega
     case rel => exact ⟨(wrap64 (x11_3 + 1)), tS, H', ⟨by have := HK1.out; have := HK2.out; have := HK3.out; omega⟩, ⟨by (with_reducible repeat (first | apply Kd.N_alloc | apply Kd.N_drewN | apply Kd.N_drew)); exact HO_7.out⟩, ⟨tG BK148.out⟩, ⟨tB⟩⟩
   clear HC15
   try clear c2
   try clear c7
   try clear c7b0
   try clear c8
   try clear c8b0
   try clear c10
   try clear c14
   try clear c14b0
   try clear c16
   try clear c16b0
   try clear c17
   try clear c17b0
   try clear c18
   try clear c18b0
   try clear c19
   try clear c19b0
   try clear c20
   try clear c20b0
   try clear c20b1
   try clear hx152_0
   try clear hx162_0
   try clear hx163_0
   try clear p152
   try clear p162
   try clear p163
   try clear q152
   try clear q162
   try clear q163
   obtain ⟨kq, x11_14, rfl, HA, HJ14, HO_7, BK148, HB⟩ := hcut
   cases kq with
   | zero => exact absurd HA.out (by simp [spec_l04Echelon.j3])
   | succ kj14 =>
    have H := HA.out
    clear HA
    simp only [spec_l04Echelon.j3] at H
    by_cases c24 : x11_14 = (x7_2.length : Int)
    ·rw [if_pos c24] at H
     have c24b0 := beq_iff_eq.mpr c24
     have c24b1 := bne_eq_false_iff_eq.mpr c24
     clear c24
     replace H' := Aq.mk H
     clear H
     obtain ⟨Ao25, co25, eo25⟩ := Kd.N_slice HO_7.out
     subst eo25
     go_wp2
     go_roundg kj14
     case measure => have := HK1.out; have := HK2.out; have := HJ14.out; omega
     case rel => exact ⟨(x7_2), (x9_2), (wrap64 (x10_2 + 1)), tS, tS, H', ⟨by have := HK1.out; have := HK2.out; have := HJ14.out; omega⟩, ⟨by (with_reducible repeat (first | apply Kd.N_alloc | apply Kd.N_drewN | apply Kd.N_drew)); exact HO_7.out⟩, ⟨tG BK148.out⟩, ⟨tB⟩⟩
    rw [if_neg c24] at H
    have c24b0 := beq_eq_false_iff_ne.mpr c24
    have c24b1 := bne_iff_ne.mpr c24
    by_cases c26 : 0 ≤ x11_14
    rotate_left
    ·rw [if_neg c26] at H
     exact absurd H (by simp)
    rw [if_pos c26] at H
    have c26b0 := decide_eq_true c26
    clear c26
    by_cases c27 : x11_14 < (x7_2.length : Int)
    rotate_left
    ·rw [if_neg c27] at H
     exact absurd H (by simp)
    rw [if_pos c27] at H
    have c27b0 := decide_eq_true c27
    clear c27
    by_cases c28 : 0 ≤ x9_2
    rotate_left
    ·rw [if_neg c28] at H
     exact absurd H (by simp)
    rw [if_pos c28] at H
    have c28b0 := decide_eq_true c28
    clear c28
    by_cases c29 : x9_2 < (x7_2.length : Int)
    rotate_left
    ·rw [if_neg c29] at H
     exact absurd H (by simp)
    rw [if_pos c29] at H
    have c29b0 := decide_eq_true c29
    clear c29
    obtain ⟨y166, hy166⟩ : ∃ y_ : List (List Int), y_ = (x7_2.set (x11_14 : Int).toNat (rd_L1 x7_2 x9_2)) := ⟨_, rfl⟩
    replace H : (if 0 ≤ a1 then (if (a1 : Int).toNat ≤ 35184372088832 then (if 0 ≤ x10_2 then (if x10_2 < ((rd_L1 x7_2 x11_14).length : Int) then ((spec_l01Inverse.f kj14 a0_0 a0_1 (rd (rd_L1 x7_2 x11_14) x10_2)).bind fun t171 => ((spec_l04Add.f kj14 a0_0 a0_1 (List.replicate (a1 : Int).toNat 0) (rd_L1 x7_2 x11_14) t171).bind fun t172 => (spec_l04Echelon.l3 kj14 a1 (y166.set (x9_2 : Int).toNat t172) x9_2 x10_2 0 a0_0 a0_1))) else (none)) else (none)) else (none)) else (none)) = some r := by first | (rw [hy166]; with_reducible exact H) | (have H2_ := (Option.bind_some _ _).symm.trans H; rw [hy166]; with_reducible exact H2_) | (have H2_ := (Option.bind_some _ _).symm.trans H; with_reducible exact H2_) | with_reducible exact H | (rw [hy166]; exact H) | exact H
    have Ny166 := Aq.mk hy166
    clear hy166
    by_cases c31 : 0 ≤ a1
    rotate_left
    ·rw [if_neg c31] at H
     exact absurd H (by simp)
    rw [if_pos c31] at H
    have c31b0 := eq_true c31
    have c31b1 := decide_eq_true c31
    clear c31
    by_cases c32 : (a1 : Int).toNat ≤ 35184372088832
    rotate_left
    ·rw [if_neg c32] at H
     exact absurd H (by simp)
    rw [if_pos c32] at H
    have c32b0 := eq_true c32
    have c32b1 := decide_eq_true c32
    clear c32
    obtain ⟨y167, hy167⟩ : ∃ y_ : List Int, y_ = (List.replicate (a1 : Int).toNat 0) := ⟨_, rfl⟩
    replace H : (if 0 ≤ x10_2 then (if x10_2 < ((rd_L1 x7_2 x11_14).length : Int) then ((spec_l01Inverse.f kj14 a0_0 a0_1 (rd (rd_L1 x7_2 x11_14) x10_2)).bind fun t171 => ((spec_l04Add.f kj14 a0_0 a0_1 y167 (rd_L1 x7_2 x11_14) t171).bind fun t172 => (spec_l04Echelon.l3 kj14 a1 (y166.set (x9_2 : Int).toNat t172) x9_2 x10_2 0 a0_0 a0_1))) else (none)) else (none)) = some r := by first | (rw [hy167]; with_reducible exact H) | (have H2_ := (Option.bind_some _ _).symm.trans H; rw [hy167]; with_reducible exact H2_) | (have H2_ := (Option.bind_some _ _).symm.trans H; with_reducible exact H2_) | with_reducible exact H | (rw [hy167]; exact H) | exact H
    have Ny167 := Aq.mk hy167
    clear hy167
    by_cases c33 : 0 ≤ x10_2
    rotate_left
    ·rw [if_neg c33] at H
     exact absurd H (by simp)
    rw [if_pos c33] at H
    have c33b0 := decide_eq_true c33
    clear c33
    by_cases c34 : x10_2 < ((rd_L1 x7_2 x11_14).length : Int)
    rotate_left
    ·rw [if_neg c34] at H
     exact absurd H (by simp)
    rw [if_pos c34] at H
    have c34b0 := decide_eq_true c34
    clear c34
    obtain ⟨t171, A35, H⟩ := qBd H
    obtain ⟨t172, A36, H⟩ := qBd H
    obtain ⟨y175, hy175⟩ : ∃ y_ : List (List Int), y_ = (y166.set (x9_2 : Int).toNat t172) := ⟨_, rfl⟩
    replace H : (spec_l04Echelon.l3 kj14 a1 y175 x9_2 x10_2 0 a0_0 a0_1) = some r := by first | (rw [hy175]; with_reducible exact H) | (have H2_ := (Option.bind_some _ _).symm.trans H; rw [hy175]; with_reducible exact H2_) | (have H2_ := (Option.bind_some _ _).symm.trans H; with_reducible exact H2_) | with_reducible exact H | (rw [hy175]; exact H) | exact H
    have Ny175 := Aq.mk hy175
    clear hy175
    replace H' := Aq.mk H
    clear H
    obtain ⟨Ao38, co38, eo38⟩ := Kd.N_slice HO_7.out
    subst eo38
    have p164 : 0 ≤ (x11_14 : Int) := of_decide_eq_true tA
    have q164 : x11_14 < (x7_2.length : Int) := of_decide_eq_true tA
    obtain ⟨ad164, A164_0, c164_0, e164, hx164_0, hl164_0, hi164_0⟩ := at_L1 (Kd.N_reads' HO_7.out).2.2 x11_14 p164 q164
    cases e164
    obtain ⟨ce164, hce164, hMe164, hcc164⟩ := Kd.N_get HO_7.out [] x11_14 p164 (by first | exact q164 | exact of_decide_eq_true tA | (have e_ := (Kd.N_reads' HO_7.out).1; omega))
    obtain ⟨ua164_0, uc164_0, rfl, ul164_0, ge164_0⟩ := Kd.FK_slice_open hMe164
    have hv164_0 := hcc164 0 _ rfl
    rw [Nat.add_zero, show ((Kd.slice 2 (Kd.int .i64))).sz = 1 from rfl, Nat.mul_one] at hv164_0
    replace hv164_0 := Option.some.inj (hv164_0.symm.trans hx164_0)
    injection hv164_0 with hva_ hvn_ hvc_
    rw [hva_] at ge164_0
    rw [hvc_] at ul164_0
    have HL164_0 := Aq.mk (show Kd.V (Kd.int .i64) 2 _ w.heap.size _ _ (rd_L1 x7_2 x11_14) from Kd.V_mk ul164_0 ge164_0)
    clear hva_ hvn_ hvc_ ge164_0 ul164_0
    clear hcc164 hce164
    have HR164_0 := Aq.mk hi164_0
    have HC164_0 := Aq.mk hl164_0
    clear hi164_0 hl164_0
    replace p164 := eq_true p164
    replace q164 := eq_true q164
    have p165 : 0 ≤ (x9_2 : Int) := of_decide_eq_true tA
    have q165 : x9_2 < (x7_2.length : Int) := of_decide_eq_true tA
    obtain ⟨ad165, A165_0, c165_0, e165, hx165_0, hl165_0, hi165_0⟩ := at_L1 (Kd.N_reads' HO_7.out).2.2 x9_2 p165 q165
    obtain rfl : ad164 = ad165 := (by injection e165)
    obtain ⟨ce165, hce165, hMe165, hcc165⟩ := Kd.N_get HO_7.out [] x9_2 p165 (by first | exact q165 | exact of_decide_eq_true tA | (have e_ := (Kd.N_reads' HO_7.out).1; omega))
    obtain ⟨ua165_0, uc165_0, rfl, ul165_0, ge165_0⟩ := Kd.FK_slice_open hMe165
    have hv165_0 := hcc165 0 _ rfl
    rw [Nat.add_zero, show ((Kd.slice 2 (Kd.int .i64))).sz = 1 from rfl, Nat.mul_one] at hv165_0
    replace hv165_0 := Option.some.inj (hv165_0.symm.trans hx165_0)
    injection hv165_0 with hva_ hvn_ hvc_
    rw [hva_] at ge165_0
    rw [hvc_] at ul165_0
    have HL165_0 := Aq.mk (show Kd.V (Kd.int .i64) 2 _ w.heap.size _ _ (rd_L1 x7_2 x9_2) from Kd.V_mk ul165_0 ge165_0)
    clear hva_ hvn_ hvc_ ge165_0 ul165_0
    clear hcc165 hce165
    have HR165_0 := Aq.mk hi165_0
    have HC165_0 := Aq.mk hl165_0
    clear hi165_0 hl165_0
    replace p165 := eq_true p165
    replace q165 := eq_true q165
    have p30 : 0 ≤ (x11_14 : Int) := of_decide_eq_true tA
    have q30 : (x11_14 : Int) < ((x7_2.length : Int) : Int) := of_decide_eq_true tA
    obtain ⟨go30, co30, eo30, gb30, gl30, cl30, HG30⟩ := Kd.N_form HO_7.out (by omega)
    (first | cases eo30 | (injection eo30 with ea_ en_ ec_; (first | subst ea_ | (injection ea_ with ea_; subst ea_)); subst ec_; clear en_))
    have GB30 := Aq.mk gb30
    have GG30 := Aq.mk HG30
    clear gb30 gl30 HG30
    (first | simp only [add_plain] at hx164_0 | skip)
    (first | simp only [add_plain] at hx165_0 | skip)
    obtain ⟨ce30, hcl30, hM30, hcc30, hfr30⟩ := Kd.N_elem HO_7.out [] (x11_14 : Int) p30 q30
    obtain ⟨ua30_0, uc30_0, rfl, ul30_0, ge30_0⟩ := Kd.FK_slice_open hM30
    have hx30_0 := hcc30 0 _ rfl
    have hf30_0 := hfr30 0
    (try simp only [show ((Kd.slice 2 (Kd.int .i64))).sz = 1 from rfl, Nat.mul_one, Nat.add_zero] at hx30_0)
    (try simp only [show ((Kd.slice 2 (Kd.int .i64))).sz = 1 from rfl, Nat.mul_one, Nat.add_zero] at hf30_0)
    clear hcl30 hcc30 hfr30; (try clear hM30)
    replace p30 := eq_true p30
    replace q30 := eq_true q30
    have HX39 := Aq.mk (show Kd.N (Kd.slice 2 (Kd.int .i64)) 38 wc w.heap.size (fun k_ => (w.heap.size ≤ k_) ∧ k_ ≠ gb148) (.slice (some ⟨go30, 0, none⟩) x7_2.length co38) x7_2 from (by (with_reducible repeat (first | apply Kd.N_alloc | apply Kd.N_drewN | apply Kd.N_drew)); exact HO_7.out))
    obtain ⟨ce39, hcl39, hM39, hcc39, hfr39⟩ := Kd.N_elem HX39.out [] (x11_14 : Int) (of_decide_eq_true tA) (by have h_ : (x11_14 : Int) < ((x7_2.length : Int) : Int) := of_decide_eq_true tA; first | exact h_ | (have e_ := (Kd.N_reads' HO_7.out).1; omega) | simpa using h_)
    obtain ⟨ua39_0, uc39_0, rfl, ul39_0, ge39_0⟩ := Kd.FK_slice_open hM39
    have HP39 := Kd.N_seg HX39.out (x11_14 : Int) (of_decide_eq_true tA) (by have h_ : (x11_14 : Int) < ((x7_2.length : Int) : Int) := of_decide_eq_true tA; first | exact h_ | (have e_ := (Kd.N_reads' HO_7.out).1; omega) | simpa using h_) (seg := [.slice A165_0 (rd_L1 x7_2 x9_2).length c165_0]) (j := 0) hcl39 hcc39 (show 1 ≤ 1 from by decide) (x' := rd_L1 x7_2 x9_2) (Kd.FK_slice_mk (Kd.V_reads' (Kd.V_mono (ok' := (fun k_ => ((fun k_ => (w.heap.size ≤ k_) ∧ k_ ≠ gb148)) k_ ∧ k_ ≠ go30)) (HL165_0.out) (fun k_ hk => ⟨⟨hk.1.1, hk.1.2⟩, fun e_ => (hk.2) (by rw [e_]; rfl)⟩))).2.1 (Kd.V_F (Kd.V_mono (ok' := (fun k_ => ((fun k_ => (w.heap.size ≤ k_) ∧ k_ ≠ gb148)) k_ ∧ k_ ≠ go30)) (HL165_0.out) (fun k_ hk => ⟨⟨hk.1.1, hk.1.2⟩, fun e_ => (hk.2) (by rw [e_]; rfl)⟩)))) (fun _ hk => hk)
    have hx39_0 := hcc39 0 _ rfl
    (try simp only [show ((Kd.slice 2 (Kd.int .i64))).sz = 1 from rfl, Nat.mul_one, Nat.add_zero] at hx39_0)
    have hf39_0 := hfr39 0
    (try simp only [show ((Kd.slice 2 (Kd.int .i64))).sz = 1 from rfl, Nat.mul_one, Nat.add_zero] at hf39_0)
    clear hcl39 hcc39 hfr39; (try clear hM39)
    (try simp only [show ((Kd.slice 2 (Kd.int .i64))).sz = 1 from rfl, Nat.mul_one, Nat.add_zero] at HP39)
    (try simp only [show ((Kd.slice 2 (Kd.int .i64))).sz = 1 from rfl, Nat.mul_one, Nat.add_zero] at HP39)
    try go_wp2_with (first | ((with_reducible refine gate_store (t := 38) (p := 65) rfl ?_); refine store_event (t := 38) (p := 65) (v := ?vo_w40) (w1 := (wc.setCell ⟨go30, (x11_14 : Int).toNat, none⟩ (.slice A165_0 (rd_L1 x7_2 x9_2).length c165_0))) ?hg ?ho ?hn ?hr ?_; (case ho => rfl); (case hg => rfl); (case hn => rfl); (case hr => exact tH); intro w40 hw; have hg : wc.grownBy w40 (some go30) := (by rw [hw]; exact HP39.2); have hp_ : Kd.N (Kd.slice 2 (Kd.int .i64)) 38 w40 w.heap.size (fun k_ => (w.heap.size ≤ k_) ∧ k_ ≠ gb148) (.slice (some ⟨go30, 0, none⟩) x7_2.length co38) y166 := (by rw [hw, Ny166.out]; exact HP39.1); clear HP39; refine qM5 hp_ (blk_grown (g := gb148) (o := .cells #[.int .i64 a0_0, .int .i64 a0_1] 28 (0, 0)) (tG BK148.out) hg (Kd.N_ne HO_7.out BK148.out (by decide))) (Kd.V_afterv (v := (.slice (some ⟨go30, 0, none⟩) x7_2.length co38)) (v1 := (.slice (some ⟨go30, 0, none⟩) x7_2.length co38)) (ok := (fun k_ => (w.heap.size ≤ k_) ∧ k_ ≠ gb148)) (by (with_reducible repeat (first | apply Kd.V_alloc | apply Kd.V_drewN | apply Kd.V_drew)); exact HL164_0.out) hg (.inl rfl)) (Kd.V_afterv (v := (.slice (some ⟨go30, 0, none⟩) x7_2.length co38)) (v1 := (.slice (some ⟨go30, 0, none⟩) x7_2.length co38)) (ok := (fun k_ => (w.heap.size ≤ k_) ∧ k_ ≠ gb148)) (by (with_reducible repeat (first | apply Kd.V_alloc | apply Kd.V_drewN | apply Kd.V_drew)); exact HL165_0.out) hg (.inl rfl)) ((by rw [hw]; exact bQS (HB.out) GB30.out : Below w.heap.size w w40)) ?_; clear HO_7 BK148 HL164_0 HL165_0 HB; intro HO_7 BK148 HL164_0 HL165_0 HB; clear hg hw hp_))
    have n0_ := Aq.mk (Kd.N_drew HO_7.out)
    have n1_ := Aq.mk (Kd.V_drew HL164_0.out)
    have n2_ := Aq.mk (Kd.V_drew HL165_0.out)
    have n3_ := Aq.mk (kQD BK148.out)
    have n4_ := Aq.mk (bQ1 HB.out)
    clear HO_7
    clear HL164_0
    clear HL165_0
    clear BK148
    clear HB
    have HO_7 := n0_
    have HL164_0 := n1_
    have HL165_0 := n2_
    have BK148 := n3_
    have HB := n4_
    clear n0_ n1_ n2_ n3_ n4_
    have p170 : 0 ≤ (x10_2 : Int) := of_decide_eq_true tA
    have q170 : x10_2 < ((rd_L1 x7_2 x11_14).length : Int) := of_decide_eq_true tA
    obtain ⟨ad170, e170, hx170_0⟩ := Kd.at_int (Kd.V_reads' HL164_0.out).2.2 x10_2 p170 q170
    cases e170
    replace p170 := eq_true p170
    replace q170 := eq_true q170
    refine start_ (n := 15) (S := fun w' => w'.cell? ⟨gb148, 0, none⟩ = some (.int .i64 a0_0) ∧ w'.cell? ⟨gb148, 1, none⟩ = some (.int .i64 a0_1) ∧ w'.cell? (ad170.add (x10_2).toNat) = some (.int .i64 (rd (rd_L1 x7_2 x11_14) x10_2))) (ds := [14]) #[false, false, false, false, false, false, false, false, false, false, false, false, false, false, false] (by kernel_rfl) rfl rfl ⟨(kQC BK148.out 0).trans rfl, (kQC BK148.out 1).trans rfl, hx170_0⟩ (fun hHeld => ?_); refine with_tabW spec_l04Echelon.tab16 spec_l04Echelon.bits16 (fun HT_ HW_ => ?_)
    generalize w40.drew = w41 at HO_7 HL164_0 HL165_0 BK148 HB hx170_0 hHeld ⊢
    refine tP0 0 66 (bm 15 1) ?_
    refine tP0 1 67 (bm 15 3) ?_
    refine tP0 3 69 (bm 15 11) ?_
    refine tP0 5 71 (bm 15 43) ?_
    refine tP0 7 73 (bm 15 171) ?_
    refine tP0 8 74 (bm 15 427) ?_
    refine tP0 9 75 (bm 15 939) ?_
    refine tT3 2 68 (bm 15 943) ?_
    refine tT3 6 72 (bm 15 1007) ?_
    refine tT3 10 76 (bm 15 2031) ?_
    refine join_ (σ := Value) 3 #[true, true, true, true, true, true, true, true, true, true, true, true, false, false, false] (fun s_ => [(70, s_), (77, .int .i64 t171)]) (fun s_ w' => (w'.cell? ⟨gb148, 0, none⟩ = some (.int .i64 a0_0) ∧ w'.cell? ⟨gb148, 1, none⟩ = some (.int .i64 a0_1) ∧ w'.cell? (ad170.add (x10_2).toNat) = some (.int .i64 (rd (rd_L1 x7_2 x11_14) x10_2))) ∧ (Kd.V (Kd.int .i64) 2 w' w.heap.size (fun k_ => (w.heap.size ≤ k_) ∧ some k_ ≠ (s_ : Value).ownBlock ∧ some k_ ≠ (.slice (some ⟨go30, 0, none⟩) x7_2.length co38 : Value).ownBlock ∧ k_ ≠ gb148) (.slice (some ad170) (rd_L1 x7_2 x11_14).length c164_0) (rd_L1 x7_2 x11_14)) ∧ (Kd.V (Kd.int .i64) 2 w' w.heap.size (fun k_ => (w.heap.size ≤ k_) ∧ some k_ ≠ (s_ : Value).ownBlock ∧ some k_ ≠ (.slice (some ⟨go30, 0, none⟩) x7_2.length co38 : Value).ownBlock ∧ k_ ≠ gb148) (.slice A165_0 (rd_L1 x7_2 x9_2).length c165_0) (rd_L1 x7_2 x9_2)) ∧ (Kd.R (Kd.int .i64) 2 w' w.heap.size (fun k_ => (w.heap.size ≤ k_)) s_ y167) ∧ (Kd.N (Kd.slice 2 (Kd.int .i64)) 38 w' w.heap.size (fun k_ => (w.heap.size ≤ k_) ∧ some k_ ≠ (s_ : Value).ownBlock ∧ k_ ≠ gb148) (.slice (some ⟨go30, 0, none⟩) x7_2.length co38) y166) ∧ (w'.heap[gb148]? = some (.cells #[.int .i64 a0_0, .int .i64 a0_1] 28 (0, 0))) ∧ (Below w.heap.size w w')) ?_ ?_
    rotate_left
    ·intro hCont
     refine two_ (i := 4) (j := 11) (Ni := some 70) (Nj := some 77) #[true, true, true, true, true, true, true, true, true, true, true, false, false, false, false] #[true, true, true, true, false, true, true, true, true, true, true, true, false, false, false] rfl rfl rfl rfl (two_of HT_.out (by kernel_rfl)) (by decide) (by decide) (fun K hK => ?_) (fun K hK => ?_)
     ·skip
      refine Kd.R_make_step (Kd.int .i64) _ 2 (by rfl) (N := 70) rfl 38 _ _ rfl a1 rfl rfl Try.underlying38 (.int .i64 0) 8 info2 rfl (by decide) (by omega) 0 (ok := fun _ => True) (okp := fun _ => True) rfl (fun _ hk => hk) trivial (of_decide_eq_true tA) (Nat.le_trans (Nat.mul_le_mul_right _ (of_decide_eq_true tA : a1.toNat ≤ 35184372088832)) (by omega)) (Below.refl _ _) (Nat.le_refl _) ?_
      intro v168 w42 ho43 hb hg_ hnew_
      have HS2_ := (hb.cell (World.block_lt_of_cell? _ _ (hHeld.2.2))).trans (hHeld.2.2)
      clear hg_ hnew_
      (first | rw [← Ny167.out] at ho43 | (simp only [Int.reduceToNat] at ho43; rw [← Ny167.out] at ho43))
      have n0_ := Aq.mk (Kd.N_elder' (by (with_reducible repeat (first | apply Kd.N_alloc | apply Kd.N_drewN | apply Kd.N_drew)); exact HO_7.out) (Kd.R_base ho43) hb)
      have n1_ := Aq.mk (Kd.V_elder' (by (with_reducible repeat (first | apply Kd.V_alloc | apply Kd.V_drewN | apply Kd.V_drew)); exact HL164_0.out) (Kd.R_base ho43) hb)
      have n2_ := Aq.mk (Kd.V_elder' (by (with_reducible repeat (first | apply Kd.V_alloc | apply Kd.V_drewN | apply Kd.V_drew)); exact HL165_0.out) (Kd.R_base ho43) hb)
      have n3_ := Aq.mk (Kd.R_lower (Kd.R_newM (M := fun k_ => (w.heap.size ≤ k_)) ho43 (bQZ tB) (fun k_ h_ => h_)) (bQZ tB))
      have n4_ := Aq.mk (tQ BK148.out hb)
      have n5_ := Aq.mk (bQT tB hb)
      clear HO_7
      clear HL164_0
      clear HL165_0
      clear BK148
      clear HB
      have HO_7 := n0_
      have HL164_0 := n1_
      have HL165_0 := n2_
      have HO169 := n3_
      have BK148 := n4_
      have HB := n5_
      clear n0_ n1_ n2_ n3_ n4_ n5_
      clear hb ho43
      refine hK.out _ _ ⟨(kQC BK148.out 0).trans rfl, (kQC BK148.out 1).trans rfl, HS2_⟩ (fun hHeld => ?_)
      clear hK K
      refine tN 70 ?_
      refine one_ (i := 11) (N := some 77) (bm 15 4095) rfl rfl (one_of HT_.out (by kernel_rfl)) (by decide) (fun K hK => ?_)
      refine goes_ Try.func66 (by kernel_rfl) rfl #[.agg #[.int .i64 a0_0, .int .i64 a0_1], .int .i64 (rd (rd_L1 x7_2 x11_14) x10_2)] (by rfl) rfl rfl tL ?_
      with_reducible refine (spec_l01Inverse.calls kj14 a0_0 a0_1 (rd (rd_L1 x7_2 x11_14) x10_2) t171 _ A35.out).mono ?_
      rintro e w44 ⟨rfl, hb⟩
      have HS2_ := (hb.cell (World.block_lt_of_cell? _ _ (hHeld.2.2))).trans (hHeld.2.2)
      refine ⟨_, rfl, ?_⟩
      have n0_ := Aq.mk (Kd.N_below (by (with_reducible repeat (first | apply Kd.N_alloc | apply Kd.N_drewN | apply Kd.N_drew)); exact HO_7.out) hb)
      have n1_ := Aq.mk (Kd.V_below (by (with_reducible repeat (first | apply Kd.V_alloc | apply Kd.V_drewN | apply Kd.V_drew)); exact HL164_0.out) hb)
      have n2_ := Aq.mk (Kd.V_below (by (with_reducible repeat (first | apply Kd.V_alloc | apply Kd.V_drewN | apply Kd.V_drew)); exact HL165_0.out) hb)
      have n3_ := Aq.mk (Kd.R_below (tR HO169.out) hb)
      have n4_ := Aq.mk (tQ BK148.out hb)
      have n5_ := Aq.mk (bQT tB hb)
      clear HO_7
      clear HL164_0
      clear HL165_0
      clear HO169
      clear BK148
      clear HB
      have HO_7 := n0_
      have HL164_0 := n1_
      have HL165_0 := n2_
      have HO169 := n3_
      have BK148 := n4_
      have HB := n5_
      clear n0_ n1_ n2_ n3_ n4_ n5_
      (try clear hb)
      (try clear hb2)
      (try clear hk)
      (try clear hi)
      refine hK.out _ _ ⟨(kQC BK148.out 0).trans rfl, (kQC BK148.out 1).trans rfl, HS2_⟩ (fun hHeld => ?_)
      clear hK K
      refine tN 77 ?_
      exact norm_ (by simp only [putAll, Act.put, qSa, qSb, qSc]) (hCont (v168) _ ⟨hHeld, (by (with_reducible repeat (first | apply Kd.V_alloc | apply Kd.V_drewN | apply Kd.V_drew)); exact Kd.V_mono HL164_0.out (fun _ hk => ⟨hk.1.1.1, ⟨hk.2, ⟨hk.1.2, hk.1.1.2⟩⟩⟩)), (by (with_reducible repeat (first | apply Kd.V_alloc | apply Kd.V_drewN | apply Kd.V_drew)); exact Kd.V_mono HL165_0.out (fun _ hk => ⟨hk.1.1.1, ⟨hk.2, ⟨hk.1.2, hk.1.1.2⟩⟩⟩)), (by (with_reducible repeat (first | apply Kd.RqA | apply Kd.RqN | apply Kd.RqD)); exact Kd.R_mono HO169.out (fun _ hk => hk.1)), (by (with_reducible repeat (first | apply Kd.N_alloc | apply Kd.N_drewN | apply Kd.N_drew)); exact Kd.N_mono HO_7.out (fun _ hk => ⟨hk.1.1, ⟨hk.2, hk.1.2⟩⟩)), (tG BK148.out), tB⟩)
     skip
     refine goes_ Try.func66 (by kernel_rfl) rfl #[.agg #[.int .i64 a0_0, .int .i64 a0_1], .int .i64 (rd (rd_L1 x7_2 x11_14) x10_2)] (by rfl) rfl rfl tL ?_
     with_reducible refine (spec_l01Inverse.calls kj14 a0_0 a0_1 (rd (rd_L1 x7_2 x11_14) x10_2) t171 _ A35.out).mono ?_
     rintro e w42 ⟨rfl, hb⟩
     have HS2_ := (hb.cell (World.block_lt_of_cell? _ _ (hHeld.2.2))).trans (hHeld.2.2)
     refine ⟨_, rfl, ?_⟩
     have n0_ := Aq.mk (Kd.N_below (by (with_reducible repeat (first | apply Kd.N_alloc | apply Kd.N_drewN | apply Kd.N_drew)); exact HO_7.out) hb)
     have n1_ := Aq.mk (Kd.V_below (by (with_reducible repeat (first | apply Kd.V_alloc | apply Kd.V_drewN | apply Kd.V_drew)); exact HL164_0.out) hb)
     have n2_ := Aq.mk (Kd.V_below (by (with_reducible repeat (first | apply Kd.V_alloc | apply Kd.V_drewN | apply Kd.V_drew)); exact HL165_0.out) hb)
     have n3_ := Aq.mk (tQ BK148.out hb)
     have n4_ := Aq.mk (bQT tB hb)
     clear HO_7
     clear HL164_0
     clear HL165_0
     clear BK148
     clear HB
     have HO_7 := n0_
     have HL164_0 := n1_
     have HL165_0 := n2_
     have BK148 := n3_
     have HB := n4_
     clear n0_ n1_ n2_ n3_ n4_
     (try clear hb)
     (try clear hb2)
     (try clear hk)
     (try clear hi)
     refine hK.out _ _ ⟨(kQC BK148.out 0).trans rfl, (kQC BK148.out 1).trans rfl, HS2_⟩ (fun hHeld => ?_)
     clear hK K
     refine tN 77 ?_
     refine one_ (i := 4) (N := some 70) (bm 15 4095) rfl rfl (one_of HT_.out (by kernel_rfl)) (by decide) (fun K hK => ?_)
     refine Kd.R_make_step (Kd.int .i64) _ 2 (by rfl) (N := 70) rfl 38 _ _ rfl a1 rfl rfl Try.underlying38 (.int .i64 0) 8 info2 rfl (by decide) (by omega) 0 (ok := fun _ => True) (okp := fun _ => True) rfl (fun _ hk => hk) trivial (of_decide_eq_true tA) (Nat.le_trans (Nat.mul_le_mul_right _ (of_decide_eq_true tA : a1.toNat ≤ 35184372088832)) (by omega)) (Below.refl _ _) (Nat.le_refl _) ?_
     intro v168 w43 ho44 hb hg_ hnew_
     have HS2_ := (hb.cell (World.block_lt_of_cell? _ _ (hHeld.2.2))).trans (hHeld.2.2)
     clear hg_ hnew_
     (first | rw [← Ny167.out] at ho44 | (simp only [Int.reduceToNat] at ho44; rw [← Ny167.out] at ho44))
     have n0_ := Aq.mk (Kd.N_elder' (by (with_reducible repeat (first | apply Kd.N_alloc | apply Kd.N_drewN | apply Kd.N_drew)); exact HO_7.out) (Kd.R_base ho44) hb)
     have n1_ := Aq.mk (Kd.V_elder' (by (with_reducible repeat (first | apply Kd.V_alloc | apply Kd.V_drewN | apply Kd.V_drew)); exact HL164_0.out) (Kd.R_base ho44) hb)
     have n2_ := Aq.mk (Kd.V_elder' (by (with_reducible repeat (first | apply Kd.V_alloc | apply Kd.V_drewN | apply Kd.V_drew)); exact HL165_0.out) (Kd.R_base ho44) hb)
     have n3_ := Aq.mk (Kd.R_lower (Kd.R_newM (M := fun k_ => (w.heap.size ≤ k_)) ho44 (bQZ tB) (fun k_ h_ => h_)) (bQZ tB))
     have n4_ := Aq.mk (tQ BK148.out hb)
     have n5_ := Aq.mk (bQT tB hb)
     clear HO_7
     clear HL164_0
     clear HL165_0
     clear BK148
     clear HB
     have HO_7 := n0_
     have HL164_0 := n1_
     have HL165_0 := n2_
     have HO169 := n3_
     have BK148 := n4_
     have HB := n5_
     clear n0_ n1_ n2_ n3_ n4_ n5_
     clear hb ho44
     refine hK.out _ _ ⟨(kQC BK148.out 0).trans rfl, (kQC BK148.out 1).trans rfl, HS2_⟩ (fun hHeld => ?_)
     clear hK K
     refine tN 70 ?_
     exact norm_ (by simp only [putAll, Act.put, qSa, qSb, qSc]) (hCont (v168) _ ⟨hHeld, (by (with_reducible repeat (first | apply Kd.V_alloc | apply Kd.V_drewN | apply Kd.V_drew)); exact Kd.V_mono HL164_0.out (fun _ hk => ⟨hk.1.1.1, ⟨hk.2, ⟨hk.1.2, hk.1.1.2⟩⟩⟩)), (by (with_reducible repeat (first | apply Kd.V_alloc | apply Kd.V_drewN | apply Kd.V_drew)); exact Kd.V_mono HL165_0.out (fun _ hk => ⟨hk.1.1.1, ⟨hk.2, ⟨hk.1.2, hk.1.1.2⟩⟩⟩)), (by (with_reducible repeat (first | apply Kd.RqA | apply Kd.RqN | apply Kd.RqD)); exact Kd.R_mono HO169.out (fun _ hk => hk.1)), (by (with_reducible repeat (first | apply Kd.N_alloc | apply Kd.N_drewN | apply Kd.N_drew)); exact Kd.N_mono HO_7.out (fun _ hk => ⟨hk.1.1, ⟨hk.2, hk.1.2⟩⟩)), (tG BK148.out), tB⟩)
    rintro v168 w45 ⟨hS_, h0_, h1_, h2_, h3_, h4_, h5_⟩
    have n0_ : Aq (Kd.V (Kd.int .i64) 2 w45 w.heap.size (fun k_ => (w.heap.size ≤ k_) ∧ some k_ ≠ (v168 : Value).ownBlock ∧ some k_ ≠ (.slice (some ⟨go30, 0, none⟩) x7_2.length co38 : Value).ownBlock ∧ k_ ≠ gb148) (.slice (some ad170) (rd_L1 x7_2 x11_14).length c164_0) (rd_L1 x7_2 x11_14)) := ⟨h0_⟩
    have n1_ : Aq (Kd.V (Kd.int .i64) 2 w45 w.heap.size (fun k_ => (w.heap.size ≤ k_) ∧ some k_ ≠ (v168 : Value).ownBlock ∧ some k_ ≠ (.slice (some ⟨go30, 0, none⟩) x7_2.length co38 : Value).ownBlock ∧ k_ ≠ gb148) (.slice A165_0 (rd_L1 x7_2 x9_2).length c165_0) (rd_L1 x7_2 x9_2)) := ⟨h1_⟩
    have n2_ : Aq (Kd.R (Kd.int .i64) 2 w45 w.heap.size (fun k_ => (w.heap.size ≤ k_)) v168 y167) := ⟨h2_⟩
    have n3_ : Aq (Kd.N (Kd.slice 2 (Kd.int .i64)) 38 w45 w.heap.size (fun k_ => (w.heap.size ≤ k_) ∧ some k_ ≠ (v168 : Value).ownBlock ∧ k_ ≠ gb148) (.slice (some ⟨go30, 0, none⟩) x7_2.length co38) y166) := ⟨h3_⟩
    have n4_ : Aq (w45.heap[gb148]? = some (.cells #[.int .i64 a0_0, .int .i64 a0_1] 28 (0, 0))) := ⟨h4_⟩
    have n5_ : Aq (Below w.heap.size w w45) := ⟨h5_⟩
    clear HO_7
    clear HL164_0
    clear HL165_0
    clear BK148
    clear HB
    clear h0_ h1_ h2_ h3_ h4_ h5_
    have HL164_0 := n0_
    have HL165_0 := n1_
    have HO169 := n2_
    have HO_7 := n3_
    have BK148 := n4_
    have HB := n5_
    clear n0_ n1_ n2_ n3_ n4_ n5_
    have hHeld : w45.cell? ⟨gb148, 0, none⟩ = some (.int .i64 a0_0) ∧ w45.cell? ⟨gb148, 1, none⟩ = some (.int .i64 a0_1) ∧ w45.cell? (ad170.add (x10_2).toNat) = some (.int .i64 (rd (rd_L1 x7_2 x11_14) x10_2)) := hS_
    obtain ⟨Ao46, co46, eo46⟩ := Kd.R_slice HO169.out
    (first | subst eo46 | (injection eo46 with f1_ f2_ f3_; have f4_ := f1_.symm; have f5_ := f3_.symm; clear f1_ f2_ f3_; subst f4_; subst f5_))
    refine norm_ (a' := ?_) ?_ ?_
    rotate_left
    ·simp only [putAll, Act.put, qSa, qSb, qSc]
     rfl
    refine one_ (i := 12) (N := some 78) (bm 15 8191) rfl rfl (one_of HT_.out (by kernel_rfl)) (by decide) (fun K hK => ?_)
    refine goes_ Try.func65 (by kernel_rfl) rfl #[.agg #[.int .i64 a0_0, .int .i64 a0_1], .slice Ao46 y167.length co46, .slice (some ad170) (rd_L1 x7_2 x11_14).length c164_0, .int .i64 t171] (by rfl) rfl rfl tL ?_
    with_reducible refine (spec_l04Add.calls kj14 a0_0 a0_1 _ _ y167 _ _ (rd_L1 x7_2 x11_14) t171 t172 _ ?s1 ?s2 ?s3 ?s4 A36.out).mono ?_
    (case s1 => exact tC ((Kd.R_reads' HO169.out).2.2))
    (case s2 => exact (Kd.R_reads' HO169.out).2.1)
    (case s3 => exact tC (((Kd.V_reads' HL164_0.out).2.2)))
    (case s4 => exact HC164_0.out)
    rintro e w47 ⟨v173, rfl, ho0, hb⟩
    have HS2_ := (hb.cell (World.block_lt_of_cell? _ _ (hHeld.2.2))).trans (hHeld.2.2)
    refine ⟨_, rfl, ?_⟩
    have n0_ := Aq.mk (Kd.N_elder' (by (with_reducible repeat (first | apply Kd.N_alloc | apply Kd.N_drewN | apply Kd.N_drew)); exact HO_7.out) (Kd.R_base ho0) hb)
    have n1_ := Aq.mk (Kd.V_elder' (by (with_reducible repeat (first | apply Kd.V_alloc | apply Kd.V_drewN | apply Kd.V_drew)); exact HL164_0.out) (Kd.R_base ho0) hb)
    have n2_ := Aq.mk (Kd.V_elder' (by (with_reducible repeat (first | apply Kd.V_alloc | apply Kd.V_drewN | apply Kd.V_drew)); exact HL165_0.out) (Kd.R_base ho0) hb)
    have n3_ := Aq.mk (Kd.R_elder' (tR HO169.out) (Kd.R_base ho0) hb)
    have n4_ := Aq.mk (Kd.R_lower (Kd.R_new' (Kd.R_newM (M := fun k_ => (w.heap.size ≤ k_)) ho0 (bQZ tB) (fun k_ h_ => h_)) (Kd.R_lt (tR HO169.out))) (bQZ tB))
    have n5_ := Aq.mk (tQ BK148.out hb)
    have n6_ := Aq.mk (bQT tB hb)
    clear HO_7
    clear HL164_0
    clear HL165_0
    clear HO169
    clear BK148
    clear HB
    have HO_7 := n0_
    have HL164_0 := n1_
    have HL165_0 := n2_
    have HO169 := n3_
    have HO174 := n4_
    have BK148 := n5_
    have HB := n6_
    clear n0_ n1_ n2_ n3_ n4_ n5_ n6_
    obtain ⟨Az173, cz173, ez173⟩ := Kd.R_slice HO174.out
    subst ez173
    (try clear hb)
    (try clear hb2)
    (try clear hk)
    (try clear hi)
    (try clear ho0)
    have p37 : 0 ≤ (x9_2 : Int) := of_decide_eq_true tA
    have q37 : (x9_2 : Int) < ((x7_2.length : Int) : Int) := of_decide_eq_true tA
    obtain ⟨ce37, hcl37, hM37, hcc37, hfr37⟩ := Kd.N_elem HO_7.out [] (x9_2 : Int) p37 q37
    obtain ⟨ua37_0, uc37_0, rfl, ul37_0, ge37_0⟩ := Kd.FK_slice_open hM37
    have hx37_0 := hcc37 0 _ rfl
    have hf37_0 := hfr37 0
    (try simp only [show ((Kd.slice 2 (Kd.int .i64))).sz = 1 from rfl, Nat.mul_one, Nat.add_zero] at hx37_0)
    (try simp only [show ((Kd.slice 2 (Kd.int .i64))).sz = 1 from rfl, Nat.mul_one, Nat.add_zero] at hf37_0)
    clear hcl37 hcc37 hfr37; (try clear hM37)
    replace p37 := eq_true p37
    replace q37 := eq_true q37
    have HX48 := Aq.mk (show Kd.N (Kd.slice 2 (Kd.int .i64)) 38 _ w.heap.size (fun k_ => (w.heap.size ≤ k_) ∧ some k_ ≠ (.slice Ao46 y167.length co46 : Value).ownBlock ∧ some k_ ≠ (.slice Az173 t172.length cz173 : Value).ownBlock ∧ k_ ≠ gb148) (.slice (some ⟨go30, 0, none⟩) x7_2.length co38) y166 from (Kd.N_mono (HO_7.out) (fun k_ hk => ⟨hk.1.1, ⟨hk.1.2.1, ⟨hk.2, hk.1.2.2⟩⟩⟩)))
    replace HX48 := Aq.mk (show Kd.N (Kd.slice 2 (Kd.int .i64)) 38 _ w.heap.size (fun k_ => (w.heap.size ≤ k_) ∧ some k_ ≠ (.slice Ao46 y167.length co46 : Value).ownBlock ∧ k_ ≠ gb148) (.slice (some ⟨go30, 0, none⟩) x7_2.length co38) y166 from Kd.N_mono HX48.out (fun k_ hk => ⟨hk.1, ⟨hk.2.1, hk.2.2.2⟩⟩))
    obtain ⟨ce48, hcl48, hM48, hcc48, hfr48⟩ := Kd.N_elem HX48.out [] (x9_2 : Int) (of_decide_eq_true tA) (by have h_ : (x9_2 : Int) < ((x7_2.length : Int) : Int) := of_decide_eq_true tA; first | exact h_ | (have e_ := (Kd.N_reads' HO_7.out).1; omega) | simpa using h_)
    obtain ⟨ua48_0, uc48_0, rfl, ul48_0, ge48_0⟩ := Kd.FK_slice_open hM48
    have HP48 := (Kd.N_seg HX48.out (x9_2 : Int) (of_decide_eq_true tA) (by have h_ : (x9_2 : Int) < ((x7_2.length : Int) : Int) := of_decide_eq_true tA; first | exact h_ | (have e_ := (Kd.N_reads' HO_7.out).1; omega) | simpa using h_) (seg := [(.slice Az173 t172.length cz173)]) (j := 0) hcl48 hcc48 (show 1 ≤ 1 from by decide) (x' := t172) (fk_row (Kd.R_mono (ok' := (fun k_ => ((fun k_ => (w.heap.size ≤ k_) ∧ some k_ ≠ (.slice Ao46 y167.length co46 : Value).ownBlock ∧ k_ ≠ gb148)) k_ ∧ k_ ≠ go30)) (Kd.R_types (Kd.R_apart' (HO174.out) (Kd.N_typed HO_7.out) (by decide)) BK148.out (by decide)) (fun k_ hk => ⟨⟨hk.1.1.1.1, ⟨hk.1.1.2, hk.2⟩⟩, fun e_ => (hk.1.2) (by rw [e_]; rfl)⟩))) (fun _ hk => hk)).1
    (try simp only [show ((Kd.slice 2 (Kd.int .i64))).sz = 1 from rfl, Nat.mul_one, Nat.add_zero] at HP48)
    rw [← Ny175.out] at HP48
    have HQ48 := Aq.mk HP48
    clear hcl48 hcc48 hfr48 HP48; (try clear hM48)
    refine hK.out _ _ ⟨(kQC BK148.out 0).trans rfl, (kQC BK148.out 1).trans rfl, HS2_⟩ (fun hHeld => ?_)
    clear hK K
    refine tN 78 ?_
    refine tP0 13 79 (bm 15 16383) ?_
    refine last_ (i := 14) (N := none) #[true, true, true, true, true, true, true, true, true, true, true, true, true, true, true] rfl rfl (one_of HT_.out (by kernel_rfl)) (by decide) (fun K hK => ?_)
    refine skip_ (w1 := ?_) (by rfl) rfl ?_ ?_
    rotate_left
    ·go_simp
     rfl
    refine hK.out _ _ ?_
    clear hK K
    refine done_ (done_of HT_.out (by kernel_rfl)) ?_
    try go_wp2
    go_loopg [13] kj14 (fun kq v13 w' => ∃ (x7_4 : List (List Int)) (x13_4 : Int), v13 = .int .i64 x13_4 ∧ Aq (spec_l04Echelon.l3 kq a1 x7_4 x9_2 x10_2 x13_4 a0_0 a0_1 = some r) ∧ Aq (kq ≤ kj14) ∧ Aq (Kd.N (Kd.slice 2 (Kd.int .i64)) 38 w' w.heap.size (fun k_ => (w.heap.size ≤ k_) ∧ k_ ≠ gb148) (.slice (some ⟨go30, 0, none⟩) x7_2.length co38) x7_4) ∧ Aq (w'.heap[gb148]? = some (.cells #[.int .i64 a0_0, .int .i64 a0_1] 28 (0, 0))) ∧ Aq (Below w.heap.size w w'))
    case atStart => exact ⟨(y175), (0), tS, H', ⟨Nat.le_refl _⟩, ⟨by (with_reducible repeat (first | apply Kd.N_alloc | apply Kd.N_drewN | apply Kd.N_drew)); exact Kd.N_mono HQ48.out (fun _ hk => ⟨hk.1, hk.2.2⟩)⟩, ⟨by (with_reducible repeat (first | refine kQN ?_ _ | refine kQD ?_ | refine kQA ?_ _)); refine kQR ?_ (by have h_ := Kd.N_away HO_7.out (fun _ hk => (by first | exact hk.2.2 | exact hk.1.2.2 | exact hk.1.2.1 | exact hk.1.1.2 | exact hk.1.2 | exact hk.2)); intro e_; exact h_ (by rw [e_]; rfl)) _; (with_reducible repeat (first | refine kQN ?_ _ | refine kQD ?_ | refine kQA ?_ _)); exact BK148.out⟩, ⟨by repeat (first | (with_reducible first | exact HB.out | apply bQA | apply bQN | apply bQ1 | refine bQS ?_ GB30.out | refine bQS ?_ GE148.out) | exact HB.out)⟩⟩
    clear H'
    try clear c2
    try clear c7
    try clear c7b0
    try clear c8
    try clear c8b0
    try clear c10
    try clear c14
    try clear c14b0
    try clear c16
    try clear c16b0
    try clear c17
    try clear c17b0
    try clear c18
    try clear c18b0
    try clear c19
    try clear c19b0
    try clear c20
    try clear c20b0
    try clear c20b1
    try clear c24
    try clear c24b0
    try clear c24b1
    try clear c26
    try clear c26b0
    try clear c27
    try clear c27b0
    try clear c28
    try clear c28b0
    try clear c29
    try clear c29b0
    try clear p30
    try clear q30
    try clear c31
    try clear c31b0
    try clear c31b1
    try clear c32
    try clear c32b0
    try clear c32b1
    try clear c33
    try clear c33b0
    try clear c34
    try clear c34b0
    try clear p37
    try clear q37
    try clear hx152_0
    try clear hx162_0
    try clear hx163_0
    try clear hx164_0
    try clear hx165_0
    try clear hx170_0
    try clear hx30_0
    try clear hx37_0
    try clear hx39_0
    try clear p152
    try clear p162
    try clear p163
    try clear p164
    try clear p165
    try clear p170
    try clear p30
    try clear p37
    try clear q152
    try clear q162
    try clear q163
    try clear q164
    try clear q165
    try clear q170
    try clear q30
    try clear q37
    obtain ⟨x7_4, x13_4, rfl, HA, HK4, HO_7, BK148, HB⟩ := hrel
    have hl7_4 := (Kd.N_reads' HO_7.out).1
    rw [hl7_4] at HO_7
    (try simp only [hl7_4])
    (try simp only [hl7_4] at BK148)
    cases gk with
    | zero => exact absurd HA.out (by simp [spec_l04Echelon.l3])
    | succ k4 =>
     have H := HA.out
     clear HA
     simp only [spec_l04Echelon.l3] at H
     by_cases c49 : x13_4 < (x7_4.length : Int)
     rotate_left
     ·rw [if_neg c49] at H
      have c49b0 := decide_eq_false c49
      clear c49
      (try (have c49b0z := c49b0; simp only [hl7_4] at c49b0z))
      replace H' := Aq.mk H
      clear H
      go_wp2
      (try simp only [← hl7_4])
      go_roundg k4
      case measure => have := HK1.out; have := HK2.out; have := HJ14.out; have := HK4.out; omega
      case rel => exact ⟨(x7_4), (wrap64 (x9_2 + 1)), (wrap64 (x10_2 + 1)), tS, tS, H', ⟨by have := HK1.out; have := HK2.out; have := HJ14.out; have := HK4.out; omega⟩, ⟨by (try simp only [hl7_4]); (with_reducible repeat (first | apply Kd.N_alloc | apply Kd.N_drewN | apply Kd.N_drew)); exact HO_7.out⟩, ⟨by (try simp only [hl7_4]); (with_reducible repeat (first | refine kQN ?_ _ | refine kQD ?_ | refine kQA ?_ _)); exact BK148.out⟩, ⟨tB⟩⟩
     rw [if_pos c49] at H
     have c49b0 := decide_eq_true c49
     clear c49
     (try (have c49b0z := c49b0; simp only [hl7_4] at c49b0z))
     by_cases c50 : x13_4 = x9_2
     ·rw [if_pos c50] at H
      have c50b0 := beq_iff_eq.mpr c50
      have c50b1 := bne_eq_false_iff_eq.mpr c50
      clear c50
      (try (have c50b0z := c50b0; simp only [hl7_4] at c50b0z))
      (try (have c50b1z := c50b1; simp only [hl7_4] at c50b1z))
      replace H' := Aq.mk H
      clear H
      go_wp2
      (try simp only [← hl7_4])
      go_roundg k4
      case measure => have := HK1.out; have := HK2.out; have := HJ14.out; have := HK4.out; omega
      case rel => exact ⟨(x7_4), (wrap64 (x13_4 + 1)), tS, H', ⟨by have := HK1.out; have := HK2.out; have := HJ14.out; have := HK4.out; omega⟩, ⟨by (try simp only [hl7_4]); (with_reducible repeat (first | apply Kd.N_alloc | apply Kd.N_drewN | apply Kd.N_drew)); exact HO_7.out⟩, ⟨by (try simp only [hl7_4]); (with_reducible repeat (first | refine kQN ?_ _ | refine kQD ?_ | refine kQA ?_ _)); exact BK148.out⟩, ⟨tB⟩⟩
     rw [if_neg c50] at H
     have c50b0 := beq_eq_false_iff_ne.mpr c50
     have c50b1 := bne_iff_ne.mpr c50
     (try (have c50b0z := c50b0; simp only [hl7_4] at c50b0z))
     (try (have c50b1z := c50b1; simp only [hl7_4] at c50b1z))
     by_cases c51 : 0 ≤ x13_4
     rotate_left
     ·rw [if_neg c51] at H
      exact absurd H (by simp)
     rw [if_pos c51] at H
     have c51b0 := decide_eq_true c51
     clear c51
     (try (have c51b0z := c51b0; simp only [hl7_4] at c51b0z))
     by_cases c52 : 0 ≤ x10_2
     rotate_left
     ·rw [if_neg c52] at H
      exact absurd H (by simp)
     rw [if_pos c52] at H
     have c52b0 := decide_eq_true c52
     clear c52
     (try (have c52b0z := c52b0; simp only [hl7_4] at c52b0z))
     by_cases c53 : x10_2 < ((rd_L1 x7_4 x13_4).length : Int)
     rotate_left
     ·rw [if_neg c53] at H
      exact absurd H (by simp)
     rw [if_pos c53] at H
     have c53b0 := decide_eq_true c53
     clear c53
     (try (have c53b0z := c53b0; simp only [hl7_4] at c53b0z))
     by_cases c54 : (rd (rd_L1 x7_4 x13_4) x10_2) = 0
     ·rw [if_pos c54] at H
      have c54b0 := beq_iff_eq.mpr c54
      have c54b1 := bne_eq_false_iff_eq.mpr c54
      clear c54
      (try (have c54b0z := c54b0; simp only [hl7_4] at c54b0z))
      (try (have c54b1z := c54b1; simp only [hl7_4] at c54b1z))
      replace H' := Aq.mk H
      clear H
      have p176 : 0 ≤ (x13_4 : Int) := of_decide_eq_true tA
      have q176 : x13_4 < (x7_4.length : Int) := of_decide_eq_true tA
      obtain ⟨ad176, A176_0, c176_0, e176, hx176_0, hl176_0, hi176_0⟩ := at_L1 (Kd.N_reads' HO_7.out).2.2 x13_4 p176 q176
      obtain rfl : (⟨go30, 0, none⟩ : Addr) = ad176 := (by injection e176)
      obtain ⟨ce176, hce176, hMe176, hcc176⟩ := Kd.N_get HO_7.out [] x13_4 p176 (by first | exact q176 | exact of_decide_eq_true tA | (have e_ := (Kd.N_reads' HO_7.out).1; omega))
      obtain ⟨ua176_0, uc176_0, rfl, ul176_0, ge176_0⟩ := Kd.FK_slice_open hMe176
      have hv176_0 := hcc176 0 _ rfl
      rw [Nat.add_zero, show ((Kd.slice 2 (Kd.int .i64))).sz = 1 from rfl, Nat.mul_one] at hv176_0
      replace hv176_0 := Option.some.inj (hv176_0.symm.trans hx176_0)
      injection hv176_0 with hva_ hvn_ hvc_
      rw [hva_] at ge176_0
      rw [hvc_] at ul176_0
      have HL176_0 := Aq.mk (show Kd.V (Kd.int .i64) 2 _ w.heap.size _ _ (rd_L1 x7_4 x13_4) from Kd.V_mk ul176_0 ge176_0)
      clear hva_ hvn_ hvc_ ge176_0 ul176_0
      clear hcc176 hce176
      (first | simp only [add_plain] at hx176_0 | simp only [add_at] at hx176_0 | simp only [Addr.add, Nat.zero_add] at hx176_0 | skip)
      have HR176_0 := Aq.mk hi176_0
      have HC176_0 := Aq.mk hl176_0
      clear hi176_0 hl176_0
      replace p176 := eq_true p176
      replace q176 := eq_true q176
      have p177 : 0 ≤ (x10_2 : Int) := of_decide_eq_true tA
      have q177 : x10_2 < ((rd_L1 x7_4 x13_4).length : Int) := of_decide_eq_true tA
      obtain ⟨ad177, e177, hx177_0⟩ := Kd.at_int (by repeat (first | (with_reducible exact HR176_0.out) | (with_reducible refine Kd.CqA ?_ _) | (with_reducible refine Kd.CqN ?_ _) | (with_reducible refine Kd.CqD ?_) | exact HR176_0.out)) x10_2 p177 q177
      cases e177
      replace p177 := eq_true p177
      replace q177 := eq_true q177
      go_wp2
      (try simp only [← hl7_4])
      go_roundg k4
      case measure => have := HK1.out; have := HK2.out; have := HJ14.out; have := HK4.out; omega
      case rel => exact ⟨(x7_4), (wrap64 (x13_4 + 1)), tS, H', ⟨by have := HK1.out; have := HK2.out; have := HJ14.out; have := HK4.out; omega⟩, ⟨by (try simp only [hl7_4]); (with_reducible repeat (first | apply Kd.N_alloc | apply Kd.N_drewN | apply Kd.N_drew)); exact HO_7.out⟩, ⟨by (try simp only [hl7_4]); (with_reducible repeat (first | refine kQN ?_ _ | refine kQD ?_ | refine kQA ?_ _)); exact BK148.out⟩, ⟨tB⟩⟩
     rw [if_neg c54] at H
     have c54b0 := beq_eq_false_iff_ne.mpr c54
     have c54b1 := bne_iff_ne.mpr c54
     (try (have c54b0z := c54b0; simp only [hl7_4] at c54b0z))
     (try (have c54b1z := c54b1; simp only [hl7_4] at c54b1z))
     by_cases c55 : 0 ≤ x9_2
     rotate_left
     ·rw [if_neg c55] at H
      exact absurd H (by simp)
     rw [if_pos c55] at H
     have c55b0 := decide_eq_true c55
     clear c55
     (try (have c55b0z := c55b0; simp only [hl7_4] at c55b0z))
     by_cases c56 : x9_2 < (x7_4.length : Int)
     rotate_left
     ·rw [if_neg c56] at H
      exact absurd H (by simp)
     rw [if_pos c56] at H
     have c56b0 := decide_eq_true c56
     clear c56
     (try (have c56b0z := c56b0; simp only [hl7_4] at c56b0z))
     obtain ⟨t182, A57, H⟩ := qBd H
     obtain ⟨y185, hy185⟩ : ∃ y_ : List (List Int), y_ = (x7_4.set (x13_4 : Int).toNat t182) := ⟨_, rfl⟩
     replace H : (spec_l04Echelon.l3 k4 a1 y185 x9_2 x10_2 (wrap64 (x13_4 + 1)) a0_0 a0_1) = some r := by first | (rw [hy185]; with_reducible exact H) | (have H2_ := (Option.bind_some _ _).symm.trans H; rw [hy185]; with_reducible exact H2_) | (have H2_ := (Option.bind_some _ _).symm.trans H; with_reducible exact H2_) | with_reducible exact H | (rw [hy185]; exact H) | exact H
     have Ny185 := Aq.mk hy185
     clear hy185
     replace H' := Aq.mk H
     clear H
     have p176 : 0 ≤ (x13_4 : Int) := of_decide_eq_true tA
     have q176 : x13_4 < (x7_4.length : Int) := of_decide_eq_true tA
     obtain ⟨ad176, A176_0, c176_0, e176, hx176_0, hl176_0, hi176_0⟩ := at_L1 (Kd.N_reads' HO_7.out).2.2 x13_4 p176 q176
     obtain rfl : (⟨go30, 0, none⟩ : Addr) = ad176 := (by injection e176)
     obtain ⟨ce176, hce176, hMe176, hcc176⟩ := Kd.N_get HO_7.out [] x13_4 p176 (by first | exact q176 | exact of_decide_eq_true tA | (have e_ := (Kd.N_reads' HO_7.out).1; omega))
     obtain ⟨ua176_0, uc176_0, rfl, ul176_0, ge176_0⟩ := Kd.FK_slice_open hMe176
     have hv176_0 := hcc176 0 _ rfl
     rw [Nat.add_zero, show ((Kd.slice 2 (Kd.int .i64))).sz = 1 from rfl, Nat.mul_one] at hv176_0
     replace hv176_0 := Option.some.inj (hv176_0.symm.trans hx176_0)
     injection hv176_0 with hva_ hvn_ hvc_
     rw [hva_] at ge176_0
     rw [hvc_] at ul176_0
     have HL176_0 := Aq.mk (show Kd.V (Kd.int .i64) 2 _ w.heap.size _ _ (rd_L1 x7_4 x13_4) from Kd.V_mk ul176_0 ge176_0)
     clear hva_ hvn_ hvc_ ge176_0 ul176_0
     clear hcc176 hce176
     (first | simp only [add_plain] at hx176_0 | simp only [add_at] at hx176_0 | simp only [Addr.add, Nat.zero_add] at hx176_0 | skip)
     have HR176_0 := Aq.mk hi176_0
     have HC176_0 := Aq.mk hl176_0
     clear hi176_0 hl176_0
     replace p176 := eq_true p176
     replace q176 := eq_true q176
     have p177 : 0 ≤ (x10_2 : Int) := of_decide_eq_true tA
     have q177 : x10_2 < ((rd_L1 x7_4 x13_4).length : Int) := of_decide_eq_true tA
     obtain ⟨ad177, e177, hx177_0⟩ := Kd.at_int (by repeat (first | (with_reducible exact HR176_0.out) | (with_reducible refine Kd.CqA ?_ _) | (with_reducible refine Kd.CqN ?_ _) | (with_reducible refine Kd.CqD ?_) | exact HR176_0.out)) x10_2 p177 q177
     cases e177
     replace p177 := eq_true p177
     replace q177 := eq_true q177
     try go_wp2
     have n0_ := Aq.mk (Kd.N_drew HO_7.out)
     have n1_ := Aq.mk (Kd.V_drew HL176_0.out)
     have n2_ := Aq.mk (kQD BK148.out)
     have n3_ := Aq.mk (Kd.CqD HR176_0.out)
     have n4_ := Aq.mk (bQ1 HB.out)
     clear HO_7
     clear HL176_0
     clear BK148
     clear HR176_0
     clear HB
     have HO_7 := n0_
     have HL176_0 := n1_
     have BK148 := n2_
     have HR176_0 := n3_
     have HB := n4_
     clear n0_ n1_ n2_ n3_ n4_
     have p178 : 0 ≤ (x13_4 : Int) := of_decide_eq_true tA
     have q178 : x13_4 < (x7_4.length : Int) := of_decide_eq_true tA
     obtain ⟨ad178, A178_0, c178_0, e178, hx178_0, hl178_0, hi178_0⟩ := at_L1 (Kd.N_reads' HO_7.out).2.2 x13_4 p178 q178
     obtain rfl : (⟨go30, 0, none⟩ : Addr) = ad178 := (by injection e178)
     obtain ⟨ce178, hce178, hMe178, hcc178⟩ := Kd.N_get HO_7.out [] x13_4 p178 (by first | exact q178 | exact of_decide_eq_true tA | (have e_ := (Kd.N_reads' HO_7.out).1; omega))
     obtain ⟨ua178_0, uc178_0, rfl, ul178_0, ge178_0⟩ := Kd.FK_slice_open hMe178
     have hv178_0 := hcc178 0 _ rfl
     rw [Nat.add_zero, show ((Kd.slice 2 (Kd.int .i64))).sz = 1 from rfl, Nat.mul_one] at hv178_0
     replace hv178_0 := Option.some.inj (hv178_0.symm.trans hx178_0)
     injection hv178_0 with hva_ hvn_ hvc_
     rw [hva_] at ge178_0
     rw [hvc_] at ul178_0
     have HL178_0 := Aq.mk (show Kd.V (Kd.int .i64) 2 _ w.heap.size _ _ (rd_L1 x7_4 x13_4) from Kd.V_mk ul178_0 ge178_0)
     clear hva_ hvn_ hvc_ ge178_0 ul178_0
     clear hcc178 hce178
     (first | simp only [add_plain] at hx178_0 | simp only [add_at] at hx178_0 | simp only [Addr.add, Nat.zero_add] at hx178_0 | skip)
     have HR178_0 := Aq.mk hi178_0
     have HC178_0 := Aq.mk hl178_0
     clear hi178_0 hl178_0
     replace p178 := eq_true p178
     replace q178 := eq_true q178
     have p179 : 0 ≤ (x9_2 : Int) := of_decide_eq_true tA
     have q179 : x9_2 < (x7_4.length : Int) := of_decide_eq_true tA
     obtain ⟨ad179, A179_0, c179_0, e179, hx179_0, hl179_0, hi179_0⟩ := at_L1 (Kd.N_reads' HO_7.out).2.2 x9_2 p179 q179
     obtain rfl : (⟨go30, 0, none⟩ : Addr) = ad179 := (by injection e179)
     obtain ⟨ce179, hce179, hMe179, hcc179⟩ := Kd.N_get HO_7.out [] x9_2 p179 (by first | exact q179 | exact of_decide_eq_true tA | (have e_ := (Kd.N_reads' HO_7.out).1; omega))
     obtain ⟨ua179_0, uc179_0, rfl, ul179_0, ge179_0⟩ := Kd.FK_slice_open hMe179
     have hv179_0 := hcc179 0 _ rfl
     rw [Nat.add_zero, show ((Kd.slice 2 (Kd.int .i64))).sz = 1 from rfl, Nat.mul_one] at hv179_0
     replace hv179_0 := Option.some.inj (hv179_0.symm.trans hx179_0)
     injection hv179_0 with hva_ hvn_ hvc_
     rw [hva_] at ge179_0
     rw [hvc_] at ul179_0
     have HL179_0 := Aq.mk (show Kd.V (Kd.int .i64) 2 _ w.heap.size _ _ (rd_L1 x7_4 x9_2) from Kd.V_mk ul179_0 ge179_0)
     clear hva_ hvn_ hvc_ ge179_0 ul179_0
     clear hcc179 hce179
     (first | simp only [add_plain] at hx179_0 | simp only [add_at] at hx179_0 | simp only [Addr.add, Nat.zero_add] at hx179_0 | skip)
     have HR179_0 := Aq.mk hi179_0
     have HC179_0 := Aq.mk hl179_0
     clear hi179_0 hl179_0
     replace p179 := eq_true p179
     replace q179 := eq_true q179
     have p180 : 0 ≤ (x13_4 : Int) := of_decide_eq_true tA
     have q180 : x13_4 < (x7_4.length : Int) := of_decide_eq_true tA
     obtain ⟨ad180, A180_0, c180_0, e180, hx180_0, hl180_0, hi180_0⟩ := at_L1 (Kd.N_reads' HO_7.out).2.2 x13_4 p180 q180
     obtain rfl : (⟨go30, 0, none⟩ : Addr) = ad180 := (by injection e180)
     obtain ⟨ce180, hce180, hMe180, hcc180⟩ := Kd.N_get HO_7.out [] x13_4 p180 (by first | exact q180 | exact of_decide_eq_true tA | (have e_ := (Kd.N_reads' HO_7.out).1; omega))
     obtain ⟨ua180_0, uc180_0, rfl, ul180_0, ge180_0⟩ := Kd.FK_slice_open hMe180
     have hv180_0 := hcc180 0 _ rfl
     rw [Nat.add_zero, show ((Kd.slice 2 (Kd.int .i64))).sz = 1 from rfl, Nat.mul_one] at hv180_0
     replace hv180_0 := Option.some.inj (hv180_0.symm.trans hx180_0)
     injection hv180_0 with hva_ hvn_ hvc_
     rw [hva_] at ge180_0
     rw [hvc_] at ul180_0
     have HL180_0 := Aq.mk (show Kd.V (Kd.int .i64) 2 _ w.heap.size _ _ (rd_L1 x7_4 x13_4) from Kd.V_mk ul180_0 ge180_0)
     clear hva_ hvn_ hvc_ ge180_0 ul180_0
     clear hcc180 hce180
     (first | simp only [add_plain] at hx180_0 | simp only [add_at] at hx180_0 | simp only [Addr.add, Nat.zero_add] at hx180_0 | skip)
     have HR180_0 := Aq.mk hi180_0
     have HC180_0 := Aq.mk hl180_0
     clear hi180_0 hl180_0
     replace p180 := eq_true p180
     replace q180 := eq_true q180
     have ea_ := Option.some.inj (hx178_0.symm.trans hx180_0)
     injection ea_ with ea_ en_ ec_
     subst ea_
     subst ec_
     clear en_
     have p181 : 0 ≤ (x10_2 : Int) := of_decide_eq_true tA
     have q181 : x10_2 < ((rd_L1 x7_4 x13_4).length : Int) := of_decide_eq_true tA
     obtain ⟨ad181, e181, hx181_0⟩ := Kd.at_int (by repeat (first | (with_reducible exact HR180_0.out) | (with_reducible refine Kd.CqA ?_ _) | (with_reducible refine Kd.CqN ?_ _) | (with_reducible refine Kd.CqD ?_) | exact HR180_0.out)) x10_2 p181 q181
     cases e181
     replace p181 := eq_true p181
     replace q181 := eq_true q181
     refine start_ (n := 21) (S := fun w' => w'.cell? ⟨gb148, 0, none⟩ = some (.int .i64 a0_0) ∧ w'.cell? ⟨gb148, 1, none⟩ = some (.int .i64 a0_1) ∧ w'.cell? ⟨go30, (x13_4).toNat, none⟩ = some (.slice (some ad181) (rd_L1 x7_4 x13_4).length c178_0) ∧ w'.cell? ⟨go30, (x9_2).toNat, none⟩ = some (.slice A179_0 (rd_L1 x7_4 x9_2).length c179_0) ∧ w'.cell? ⟨go30, (x13_4).toNat, none⟩ = some (.slice (some ad181) (rd_L1 x7_4 x13_4).length c178_0) ∧ w'.cell? (ad181.add (x10_2).toNat) = some (.int .i64 (rd (rd_L1 x7_4 x13_4) x10_2))) (ds := [20]) #[false, false, false, false, false, false, false, false, false, false, false, false, false, false, false, false, false, false, false, false, false] (by kernel_rfl) rfl rfl ⟨(kQC BK148.out 0).trans rfl, (kQC BK148.out 1).trans rfl, hx178_0, hx179_0, hx180_0, hx181_0⟩ (fun hHeld => ?_); refine with_tabW spec_l04Echelon.tab21 spec_l04Echelon.bits21 (fun HT_ HW_ => ?_)
     generalize wr.drew = w59 at HO_7 HL176_0 BK148 HR176_0 HB HL178_0 HL179_0 HL180_0 HR178_0 HR179_0 HR180_0 hx178_0 hx179_0 hx180_0 hx181_0 hHeld ⊢
     refine tP0 0 99 (bm 21 1) ?_
     refine tP0 1 100 (bm 21 3) ?_
     refine tP0 3 102 (bm 21 11) ?_
     refine tP0 4 103 (bm 21 27) ?_
     refine tP0 5 104 (bm 21 59) ?_
     refine tP0 7 106 (bm 21 187) ?_
     refine tP0 8 107 (bm 21 443) ?_
     refine tP0 9 108 (bm 21 955) ?_
     refine tP0 11 110 (bm 21 3003) ?_
     refine tP0 12 111 (bm 21 7099) ?_
     refine tP0 13 112 (bm 21 15291) ?_
     refine tP0 15 114 (bm 21 48059) ?_
     refine tT6 2 101 (bm 21 48063) ?_
     refine tT6 6 105 (bm 21 48127) ?_
     refine tT6 10 109 (bm 21 49151) ?_
     refine tT6 14 113 (bm 21 65535) ?_
     refine tP0 16 115 (bm 21 131071) ?_
     refine tT6 17 116 (bm 21 262143) ?_
     refine one_ (i := 18) (N := some 117) (bm 21 524287) rfl rfl (one_of HT_.out (by kernel_rfl)) (by decide) (fun K hK => ?_)
     refine goes_ Try.func65 (by kernel_rfl) rfl #[.agg #[.int .i64 a0_0, .int .i64 a0_1], .slice (some ad181) (rd_L1 x7_4 x13_4).length c178_0, .slice A179_0 (rd_L1 x7_4 x9_2).length c179_0, .int .i64 (rd (rd_L1 x7_4 x13_4) x10_2)] (by rfl) rfl rfl tL ?_
     with_reducible refine (spec_l04Add.calls k4 a0_0 a0_1 _ _ (rd_L1 x7_4 x13_4) _ _ (rd_L1 x7_4 x9_2) (rd (rd_L1 x7_4 x13_4) x10_2) t182 _ ?s1 ?s2 ?s3 ?s4 A57.out).mono ?_
     (case s1 => exact tC ((by repeat (first | (with_reducible exact HR178_0.out) | (with_reducible refine Kd.CqA ?_ _) | (with_reducible refine Kd.CqN ?_ _) | (with_reducible refine Kd.CqD ?_) | exact HR178_0.out))))
     (case s2 => exact HC178_0.out)
     (case s3 => exact tC ((by repeat (first | (with_reducible exact HR179_0.out) | (with_reducible refine Kd.CqA ?_ _) | (with_reducible refine Kd.CqN ?_ _) | (with_reducible refine Kd.CqD ?_) | exact HR179_0.out))))
     (case s4 => exact HC179_0.out)
     rintro e w60 ⟨v183, rfl, ho0, hb⟩
     have HS2_ := (hb.cell (World.block_lt_of_cell? _ _ (hHeld.2.2.1))).trans (hHeld.2.2.1)
     have HS3_ := (hb.cell (World.block_lt_of_cell? _ _ (hHeld.2.2.2.1))).trans (hHeld.2.2.2.1)
     have HS4_ := (hb.cell (World.block_lt_of_cell? _ _ (hHeld.2.2.2.2.1))).trans (hHeld.2.2.2.2.1)
     have HS5_ := (hb.cell (World.block_lt_of_cell? _ _ (hHeld.2.2.2.2.2))).trans (hHeld.2.2.2.2.2)
     refine ⟨_, rfl, ?_⟩
     have n0_ := Aq.mk (Kd.N_elder' (by (with_reducible repeat (first | apply Kd.N_alloc | apply Kd.N_drewN | apply Kd.N_drew)); exact HO_7.out) (Kd.R_base ho0) hb)
     have n1_ := Aq.mk (Kd.V_elder' (by (with_reducible repeat (first | apply Kd.V_alloc | apply Kd.V_drewN | apply Kd.V_drew)); exact HL176_0.out) (Kd.R_base ho0) hb)
     have n2_ := Aq.mk (Kd.V_elder' (by (with_reducible repeat (first | apply Kd.V_alloc | apply Kd.V_drewN | apply Kd.V_drew)); exact HL178_0.out) (Kd.R_base ho0) hb)
     have n3_ := Aq.mk (Kd.V_elder' (by (with_reducible repeat (first | apply Kd.V_alloc | apply Kd.V_drewN | apply Kd.V_drew)); exact HL179_0.out) (Kd.R_base ho0) hb)
     have n4_ := Aq.mk (Kd.V_elder' (by (with_reducible repeat (first | apply Kd.V_alloc | apply Kd.V_drewN | apply Kd.V_drew)); exact HL180_0.out) (Kd.R_base ho0) hb)
     have n5_ := Aq.mk (Kd.R_lower (Kd.R_newM (M := fun k_ => (w.heap.size ≤ k_)) ho0 (bQZ tB) (fun k_ h_ => h_)) (bQZ tB))
     have n6_ := Aq.mk (tQ BK148.out hb)
     have n7_ := Aq.mk (Kd.C_below (by repeat (first | (with_reducible exact HR176_0.out) | (with_reducible refine Kd.CqA ?_ _) | (with_reducible refine Kd.CqN ?_ _) | (with_reducible refine Kd.CqD ?_) | exact HR176_0.out)) hb)
     have n8_ := Aq.mk (Kd.C_below (by repeat (first | (with_reducible exact HR178_0.out) | (with_reducible refine Kd.CqA ?_ _) | (with_reducible refine Kd.CqN ?_ _) | (with_reducible refine Kd.CqD ?_) | exact HR178_0.out)) hb)
     have n9_ := Aq.mk (Kd.C_below (by repeat (first | (with_reducible exact HR179_0.out) | (with_reducible refine Kd.CqA ?_ _) | (with_reducible refine Kd.CqN ?_ _) | (with_reducible refine Kd.CqD ?_) | exact HR179_0.out)) hb)
     have n10_ := Aq.mk (Kd.C_below (by repeat (first | (with_reducible exact HR180_0.out) | (with_reducible refine Kd.CqA ?_ _) | (with_reducible refine Kd.CqN ?_ _) | (with_reducible refine Kd.CqD ?_) | exact HR180_0.out)) hb)
     have n11_ := Aq.mk (bQT tB hb)
     clear HO_7
     clear HL176_0
     clear HL178_0
     clear HL179_0
     clear HL180_0
     clear BK148
     clear HR176_0
     clear HR178_0
     clear HR179_0
     clear HR180_0
     clear HB
     have HO_7 := n0_
     have HL176_0 := n1_
     have HL178_0 := n2_
     have HL179_0 := n3_
     have HL180_0 := n4_
     have HO184 := n5_
     have BK148 := n6_
     have HR176_0 := n7_
     have HR178_0 := n8_
     have HR179_0 := n9_
     have HR180_0 := n10_
     have HB := n11_
     clear n0_ n1_ n2_ n3_ n4_ n5_ n6_ n7_ n8_ n9_ n10_ n11_
     obtain ⟨Az183, cz183, ez183⟩ := Kd.R_slice HO184.out
     subst ez183
     (try clear hb)
     (try clear hb2)
     (try clear hk)
     (try clear hi)
     (try clear ho0)
     have p58 : 0 ≤ (x13_4 : Int) := of_decide_eq_true tA
     have q58 : (x13_4 : Int) < ((x7_4.length : Int) : Int) := of_decide_eq_true tA
     obtain ⟨ce58, hcl58, hM58, hcc58, hfr58⟩ := Kd.N_elem HO_7.out [] (x13_4 : Int) p58 q58
     obtain ⟨ua58_0, uc58_0, rfl, ul58_0, ge58_0⟩ := Kd.FK_slice_open hM58
     have hx58_0 := hcc58 0 _ rfl
     have hf58_0 := hfr58 0
     (try simp only [show ((Kd.slice 2 (Kd.int .i64))).sz = 1 from rfl, Nat.mul_one, Nat.add_zero] at hx58_0)
     (try simp only [show ((Kd.slice 2 (Kd.int .i64))).sz = 1 from rfl, Nat.mul_one, Nat.add_zero] at hf58_0)
     clear hcl58 hcc58 hfr58; (try clear hM58)
     replace p58 := eq_true p58
     replace q58 := eq_true q58
     have HX61 := Aq.mk (show Kd.N (Kd.slice 2 (Kd.int .i64)) 38 _ w.heap.size (fun k_ => (w.heap.size ≤ k_) ∧ some k_ ≠ (.slice Az183 t182.length cz183 : Value).ownBlock ∧ k_ ≠ gb148) (.slice (some ⟨go30, 0, none⟩) x7_4.length co38) x7_4 from (Kd.N_mono (HO_7.out) (fun k_ hk => ⟨hk.1.1, ⟨hk.2, hk.1.2⟩⟩)))
     replace HX61 := Aq.mk (show Kd.N (Kd.slice 2 (Kd.int .i64)) 38 _ w.heap.size (fun k_ => (w.heap.size ≤ k_) ∧ k_ ≠ gb148) (.slice (some ⟨go30, 0, none⟩) x7_4.length co38) x7_4 from Kd.N_mono HX61.out (fun k_ hk => ⟨hk.1, hk.2.2⟩))
     obtain ⟨ce61, hcl61, hM61, hcc61, hfr61⟩ := Kd.N_elem HX61.out [] (x13_4 : Int) (of_decide_eq_true tA) (by have h_ : (x13_4 : Int) < ((x7_4.length : Int) : Int) := of_decide_eq_true tA; first | exact h_ | (have e_ := (Kd.N_reads' HO_7.out).1; omega) | simpa using h_)
     obtain ⟨ua61_0, uc61_0, rfl, ul61_0, ge61_0⟩ := Kd.FK_slice_open hM61
     have HP61 := (Kd.N_seg HX61.out (x13_4 : Int) (of_decide_eq_true tA) (by have h_ : (x13_4 : Int) < ((x7_4.length : Int) : Int) := of_decide_eq_true tA; first | exact h_ | (have e_ := (Kd.N_reads' HO_7.out).1; omega) | simpa using h_) (seg := [(.slice Az183 t182.length cz183)]) (j := 0) hcl61 hcc61 (show 1 ≤ 1 from by decide) (x' := t182) (fk_row (Kd.R_mono (ok' := (fun k_ => ((fun k_ => (w.heap.size ≤ k_) ∧ k_ ≠ gb148)) k_ ∧ k_ ≠ go30)) (Kd.R_types (Kd.R_apart' (HO184.out) (Kd.N_typed HO_7.out) (by decide)) BK148.out (by decide)) (fun k_ hk => ⟨⟨hk.1.1.1, hk.2⟩, fun e_ => (hk.1.2) (by rw [e_]; rfl)⟩))) (fun _ hk => hk)).1
     (try simp only [show ((Kd.slice 2 (Kd.int .i64))).sz = 1 from rfl, Nat.mul_one, Nat.add_zero] at HP61)
     rw [← Ny185.out] at HP61
     have HQ61 := Aq.mk HP61
     clear hcl61 hcc61 hfr61 HP61; (try clear hM61)
     refine hK.out _ _ ⟨(kQC BK148.out 0).trans rfl, (kQC BK148.out 1).trans rfl, HS2_, HS3_, HS4_, HS5_⟩ (fun hHeld => ?_)
     clear hK K
     refine tN 117 ?_
     refine tP0 19 118 (bm 21 1048575) ?_
     refine last_ (i := 20) (N := none) #[true, true, true, true, true, true, true, true, true, true, true, true, true, true, true, true, true, true, true, true, true] rfl rfl (one_of HT_.out (by kernel_rfl)) (by decide) (fun K hK => ?_)
     refine skip_ (w1 := ?_) (by rfl) rfl ?_ ?_
     rotate_left
     ·go_simp
      rfl
     refine hK.out _ _ ?_
     clear hK K
     refine done_ (done_of HT_.out (by kernel_rfl)) ?_
     try go_wp2
     (try simp only [← hl7_4])
     go_roundg k4
     case measure => have := HK1.out; have := HK2.out; have := HJ14.out; have := HK4.out; omega
     case rel => exact ⟨(y185), (wrap64 (x13_4 + 1)), tS, H', ⟨by have := HK1.out; have := HK2.out; have := HJ14.out; have := HK4.out; omega⟩, ⟨by (try simp only [hl7_4]); (with_reducible repeat (first | apply Kd.N_alloc | apply Kd.N_drewN | apply Kd.N_drew)); exact HQ61.out⟩, ⟨by (try simp only [hl7_4]); (with_reducible repeat (first | refine kQN ?_ _ | refine kQD ?_ | refine kQA ?_ _)); refine kQR ?_ (by have h_ := Kd.N_away HO_7.out (fun _ hk => (by first | exact hk.2 | exact hk.1.2.2 | exact hk.1.2.1 | exact hk.1.1.2 | exact hk.1.2 | exact hk.2)); intro e_; exact h_ (by rw [e_]; rfl)) _; (with_reducible repeat (first | refine kQN ?_ _ | refine kQD ?_ | refine kQA ?_ _)); exact BK148.out⟩, ⟨by repeat (first | (with_reducible first | exact HB.out | apply bQA | apply bQN | apply bQ1 | refine bQS ?_ GB30.out | refine bQS ?_ GE148.out) | exact HB.out)⟩⟩
end Go.Proofs.Ytbalkaphibnpcaa.P
