/- Functions of the program and what they tell, as the printing program wrote it. -/
import Derived.Test.YtbalkaphibnpcaaPx0
import Derived.Test.YtbalkaphibnpcaaPx1
import Derived.Test.YtbalkaphibnpcaaPx4
namespace Go.Proofs.Ytbalkaphibnpcaa.P
open Go.Shelf Go.RowKit Go.Proofs.YtbalkaphibnpcaaW.PrintWords Go.Proofs.YtbalkaphibnpcaaW.PrintLast Go.Proofs.YtbalkaphibnpcaaW.PrintMore
attribute [local go_sem] max2_int min2_int max_two min_two max_three min_three max_four min_four
set_option linter.unusedVariables false
set_option linter.unusedSimpArgs false
set_option maxHeartbeats 8000000
set_option maxRecDepth 100000
def laws_eqMatrix.f (k : Nat) (a0_0 : Int) (l0_1 : List Int) (a1_0 : Int) (l1_1 : List Int) : Option (Bool) := if a0_0 = a1_0 then ((laws_eqInt64S.f k l0_1 l1_1).bind fun t714 => (if t714 = true then (some true) else (some false))) else (some false)
theorem laws_eqMatrix.mono : ∀ a0 a1 a2 a3 k, LeO (laws_eqMatrix.f k a0 a1 a2 a3) (laws_eqMatrix.f (k + 1) a0 a1 a2 a3) := by
 intro a0 a1 a2 a3 k
 unfold laws_eqMatrix.f
 repeat' first
  | (with_reducible first | apply laws_eqInt64S.mono | exact LeO.refl _ | exact LeO.none _ | refine LeO.ite ?_ ?_ | refine LeO.bind ?_ (fun _ => ?_))
  | exact LeO.none _
  | refine LeO.ite ?_ ?_
  | refine LeO.bind ?_ (fun _ => ?_)
theorem laws_eqMatrix.calls (k : Nat) (a0_0 : Int) (A0_1 : Option Addr) (c0_1 : Nat) (l0_1 : List Int) (a1_0 : Int) (A1_1 : Option Addr) (c1_1 : Nat) (l1_1 : List Int) (r : Bool) (w : World) (hr0_1 : Kd.C (Kd.int .i64) w A0_1 l0_1.length l0_1) (hc0_1 : l0_1.length ≤ c0_1) (hr1_1 : Kd.C (Kd.int .i64) w A1_1 l1_1.length l1_1) (hc1_1 : l1_1.length ≤ c1_1) (h : laws_eqMatrix.f k a0_0 l0_1 a1_0 l1_1 = some r) :
 Calls Try.prog 38 #[.agg #[.int .i64 a0_0, .slice A0_1 l0_1.length c0_1], .agg #[.int .i64 a1_0, .slice A1_1 l1_1.length c1_1]] w fun e w' => e = .returned (.bool r) ∧ Below w.heap.size w w' := by
 have hu63 := Try.underlying63
 have HR0_1 := Aq.mk hr0_1
 have HC0_1 := Aq.mk hc0_1
 clear hr0_1 hc0_1
 have HR1_1 := Aq.mk hr1_1
 have HC1_1 := Aq.mk hc1_1
 clear hr1_1 hc1_1
 have HB := Aq.mk (Below.refl w.heap.size w)
 have H : (if a0_0 = a1_0 then ((laws_eqInt64S.f k l0_1 l1_1).bind fun t714 => (if t714 = true then (some true) else (some false))) else (some false)) = some r := h
 clear h
 by_cases c3 : a0_0 = a1_0
 rotate_left
 ·rw [if_neg c3] at H
  have c3b0 := beq_eq_false_iff_ne.mpr c3
  have c3b1 := bne_iff_ne.mpr c3
  obtain rfl := Option.some.inj H
  go_enter Try.func38, Try.ntmps38
  go_wp2_with (first | ((with_reducible refine gQd (N := 2) rfl ?_); refine xQe ?hg (N := 2) ?hd (cs := #[.int .i64 a0_0, .slice A0_1 l0_1.length c0_1]) (t := 63) ?hr ?_; (case hd => rfl); (case hg => rfl); (case hr => exact tH); intro gb712 hg w16 hbox hb; refine qM4 (bQT tB hb) hbox (tZ w hg) (tZ w hg) ?_; clear HB; intro HB BK712 GW712 GE712; clear hb hbox hg) | ((with_reducible refine gQd (N := 3) rfl ?_); refine xQe ?hg (N := 3) ?hd (cs := #[.int .i64 a1_0, .slice A1_1 l1_1.length c1_1]) (t := 63) ?hr ?_; (case hd => rfl); (case hg => rfl); (case hr => exact tH); intro gb713 hg w17 hbox hb; refine qM7 (tQ BK712.out hb) (bQT tB hb) hbox (tZ w hg) (tZ w hg) ((by rw [hg]; exact Nat.ne_of_lt (blk_lt (g := gb712) (o := .cells #[.int .i64 a0_0, .slice A0_1 l0_1.length c0_1] 63 (0, 0)) (tG BK712.out)) : gb712 ≠ gb713)) ((by rw [hg]; exact Nat.ne_of_gt (blk_lt (g := gb712) (o := .cells #[.int .i64 a0_0, .slice A0_1 l0_1.length c0_1] 63 (0, 0)) (tG BK712.out)) : gb713 ≠ gb712)) ?_; clear BK712 HB; intro BK712 HB BK713 GW713 GE713 NB712_713 NB713_712; clear hb hbox hg; have hnb18 := NB712_713.out; have hnc18 := NB713_712.out; have hcz19_0 : w17.cell? ⟨gb712, 0, none⟩ = some (.int .i64 a0_0) := (kQC BK712.out 0).trans rfl; have hcz19_1 : w17.cell? ⟨gb712, 1, none⟩ = some (.slice A0_1 l0_1.length c0_1) := (kQC BK712.out 1).trans rfl; have hfz19_0 := kQF BK712.out 0; have hfz19_1 := kQF BK712.out 1; have hcz20_0 : w17.cell? ⟨gb713, 0, none⟩ = some (.int .i64 a1_0) := (kQC BK713.out 0).trans rfl; have hcz20_1 : w17.cell? ⟨gb713, 1, none⟩ = some (.slice A1_1 l1_1.length c1_1) := (kQC BK713.out 1).trans rfl; have hfz20_0 := kQF BK713.out 0; have hfz20_1 := kQF BK713.out 1))
  go_ret
  exact ⟨tE, tB⟩
 rw [if_pos c3] at H
 have c3b0 := beq_iff_eq.mpr c3
 have c3b1 := bne_eq_false_iff_eq.mpr c3
 clear c3
 obtain ⟨t714, A4, H⟩ := qBd H
 by_cases c5 : t714 = true
 ·subst c5
  rw [if_pos rfl] at H
  obtain rfl := Option.some.inj H
  go_enter Try.func38, Try.ntmps38
  go_wp2_with (first | ((with_reducible refine gQd (N := 2) rfl ?_); refine xQe ?hg (N := 2) ?hd (cs := #[.int .i64 a0_0, .slice A0_1 l0_1.length c0_1]) (t := 63) ?hr ?_; (case hd => rfl); (case hg => rfl); (case hr => exact tH); intro gb712 hg w6 hbox hb; refine qM4 (bQT tB hb) hbox (tZ w hg) (tZ w hg) ?_; clear HB; intro HB BK712 GW712 GE712; clear hb hbox hg) | ((with_reducible refine gQd (N := 3) rfl ?_); refine xQe ?hg (N := 3) ?hd (cs := #[.int .i64 a1_0, .slice A1_1 l1_1.length c1_1]) (t := 63) ?hr ?_; (case hd => rfl); (case hg => rfl); (case hr => exact tH); intro gb713 hg w7 hbox hb; refine qM7 (tQ BK712.out hb) (bQT tB hb) hbox (tZ w hg) (tZ w hg) ((by rw [hg]; exact Nat.ne_of_lt (blk_lt (g := gb712) (o := .cells #[.int .i64 a0_0, .slice A0_1 l0_1.length c0_1] 63 (0, 0)) (tG BK712.out)) : gb712 ≠ gb713)) ((by rw [hg]; exact Nat.ne_of_gt (blk_lt (g := gb712) (o := .cells #[.int .i64 a0_0, .slice A0_1 l0_1.length c0_1] 63 (0, 0)) (tG BK712.out)) : gb713 ≠ gb712)) ?_; clear BK712 HB; intro BK712 HB BK713 GW713 GE713 NB712_713 NB713_712; clear hb hbox hg; have hnb8 := NB712_713.out; have hnc8 := NB713_712.out; have hcz9_0 : w7.cell? ⟨gb712, 0, none⟩ = some (.int .i64 a0_0) := (kQC BK712.out 0).trans rfl; have hcz9_1 : w7.cell? ⟨gb712, 1, none⟩ = some (.slice A0_1 l0_1.length c0_1) := (kQC BK712.out 1).trans rfl; have hfz9_0 := kQF BK712.out 0; have hfz9_1 := kQF BK712.out 1; have hcz10_0 : w7.cell? ⟨gb713, 0, none⟩ = some (.int .i64 a1_0) := (kQC BK713.out 0).trans rfl; have hcz10_1 : w7.cell? ⟨gb713, 1, none⟩ = some (.slice A1_1 l1_1.length c1_1) := (kQC BK713.out 1).trans rfl; have hfz10_0 := kQF BK713.out 0; have hfz10_1 := kQF BK713.out 1) | ((with_reducible refine gQc (f := 22) rfl ?_); refine goesL_ (some 14) rfl rfl Try.func22 (by kernel_rfl) rfl #[.slice A0_1 l0_1.length c0_1, .slice A1_1 l1_1.length c1_1] rfl tL ?_; (with_reducible refine (laws_eqInt64S.calls k _ _ l0_1 _ _ l1_1 true _ ?s1 ?s2 ?s3 ?s4 A4.out).mono ?_); (case s1 => exact tC ((Kd.C_below HR0_1.out HB.out))); (case s2 => exact HC0_1.out); (case s3 => exact tC ((Kd.C_below HR1_1.out HB.out))); (case s4 => exact HC1_1.out); rintro e w' ⟨rfl, ⟨nd, rfl⟩⟩; refine ⟨_, rfl, ?_⟩))
  go_ret
  exact ⟨tE, tB⟩
 replace c5 := Bool.eq_false_iff.mpr c5
 subst c5
 rw [if_neg (show ¬ (false = true) by decide)] at H
 obtain rfl := Option.some.inj H
 go_enter Try.func38, Try.ntmps38
 go_wp2_with (first | ((with_reducible refine gQd (N := 2) rfl ?_); refine xQe ?hg (N := 2) ?hd (cs := #[.int .i64 a0_0, .slice A0_1 l0_1.length c0_1]) (t := 63) ?hr ?_; (case hd => rfl); (case hg => rfl); (case hr => exact tH); intro gb712 hg w11 hbox hb; refine qM4 (bQT tB hb) hbox (tZ w hg) (tZ w hg) ?_; clear HB; intro HB BK712 GW712 GE712; clear hb hbox hg) | ((with_reducible refine gQd (N := 3) rfl ?_); refine xQe ?hg (N := 3) ?hd (cs := #[.int .i64 a1_0, .slice A1_1 l1_1.length c1_1]) (t := 63) ?hr ?_; (case hd => rfl); (case hg => rfl); (case hr => exact tH); intro gb713 hg w12 hbox hb; refine qM7 (tQ BK712.out hb) (bQT tB hb) hbox (tZ w hg) (tZ w hg) ((by rw [hg]; exact Nat.ne_of_lt (blk_lt (g := gb712) (o := .cells #[.int .i64 a0_0, .slice A0_1 l0_1.length c0_1] 63 (0, 0)) (tG BK712.out)) : gb712 ≠ gb713)) ((by rw [hg]; exact Nat.ne_of_gt (blk_lt (g := gb712) (o := .cells #[.int .i64 a0_0, .slice A0_1 l0_1.length c0_1] 63 (0, 0)) (tG BK712.out)) : gb713 ≠ gb712)) ?_; clear BK712 HB; intro BK712 HB BK713 GW713 GE713 NB712_713 NB713_712; clear hb hbox hg; have hnb13 := NB712_713.out; have hnc13 := NB713_712.out; have hcz14_0 : w12.cell? ⟨gb712, 0, none⟩ = some (.int .i64 a0_0) := (kQC BK712.out 0).trans rfl; have hcz14_1 : w12.cell? ⟨gb712, 1, none⟩ = some (.slice A0_1 l0_1.length c0_1) := (kQC BK712.out 1).trans rfl; have hfz14_0 := kQF BK712.out 0; have hfz14_1 := kQF BK712.out 1; have hcz15_0 : w12.cell? ⟨gb713, 0, none⟩ = some (.int .i64 a1_0) := (kQC BK713.out 0).trans rfl; have hcz15_1 : w12.cell? ⟨gb713, 1, none⟩ = some (.slice A1_1 l1_1.length c1_1) := (kQC BK713.out 1).trans rfl; have hfz15_0 := kQF BK713.out 0; have hfz15_1 := kQF BK713.out 1) | ((with_reducible refine gQc (f := 22) rfl ?_); refine goesL_ (some 14) rfl rfl Try.func22 (by kernel_rfl) rfl #[.slice A0_1 l0_1.length c0_1, .slice A1_1 l1_1.length c1_1] rfl tL ?_; (with_reducible refine (laws_eqInt64S.calls k _ _ l0_1 _ _ l1_1 false _ ?s1 ?s2 ?s3 ?s4 A4.out).mono ?_); (case s1 => exact tC ((Kd.C_below HR0_1.out HB.out))); (case s2 => exact HC0_1.out); (case s3 => exact tC ((Kd.C_below HR1_1.out HB.out))); (case s4 => exact HC1_1.out); rintro e w' ⟨rfl, ⟨nd, rfl⟩⟩; refine ⟨_, rfl, ?_⟩))
 go_ret
 exact ⟨tE, tB⟩
def laws_eqMatrixS.l0 : Nat → List (S63) → List (S63) → Int → Option (Bool)
  | 0, _, _, _ => none
  | k + 1, x0, x1, x5 => if x5 < (x0.length : Int) then (if 0 ≤ x5 then (if x5 < (x1.length : Int) then ((laws_eqMatrix.f k ((rd_T63 x0 x5).f0) ((rd_T63 x0 x5).f1) ((rd_T63 x1 x5).f0) ((rd_T63 x1 x5).f1)).bind fun t717 => (if t717 = true then (laws_eqMatrixS.l0 k x0 x1 (wrap64 (x5 + 1))) else (some false))) else (none)) else (none)) else (some true)
def laws_eqMatrixS.f (k : Nat) (l0 : List (S63)) (l1 : List (S63)) : Option (Bool) := if (l0.length : Int) = (l1.length : Int) then (laws_eqMatrixS.l0 k l0 l1 0) else (some false)
theorem laws_eqMatrixS.mono_l : ∀ k, (∀ y0 y1 y2, LeO (laws_eqMatrixS.l0 k y0 y1 y2) (laws_eqMatrixS.l0 (k + 1) y0 y1 y2))
 | 0 => fun _ _ _ r h => by simp [laws_eqMatrixS.l0] at h
 | k + 1 => by
  have ih0 := laws_eqMatrixS.mono_l k
  ·intro y0 y1 y2
   unfold laws_eqMatrixS.l0
   repeat' first
   | (with_reducible first | apply ih0 | apply laws_eqMatrix.mono | exact LeO.refl _ | exact LeO.none _ | refine LeO.ite ?_ ?_ | refine LeO.bind ?_ (fun _ => ?_))
   | exact LeO.none _
   | refine LeO.ite ?_ ?_
   | refine LeO.bind ?_ (fun _ => ?_)
theorem laws_eqMatrixS.mono : ∀ a0 a1 k, LeO (laws_eqMatrixS.f k a0 a1) (laws_eqMatrixS.f (k + 1) a0 a1) := by
 intro a0 a1 k
 have ih0 := laws_eqMatrixS.mono_l k
 unfold laws_eqMatrixS.f
 repeat' first
  | (with_reducible first | apply ih0 | apply laws_eqMatrix.mono | exact LeO.refl _ | exact LeO.none _ | refine LeO.ite ?_ ?_ | refine LeO.bind ?_ (fun _ => ?_))
  | exact LeO.none _
  | refine LeO.ite ?_ ?_
  | refine LeO.bind ?_ (fun _ => ?_)
def laws_eqMatrixS.T6 : Bool × List (List Nat × List Nat) := (true, [([], []), ([], []), ([0, 1], [0, 1]), ([2], [2]), ([], []), ([], []), ([4, 5], [4, 5]), ([6], [6]), ([3, 7], [3, 7]), ([8], [8])])
def laws_eqMatrixS.B6 : List Nat := [0, 0, 3, 7, 0, 0, 48, 112, 255, 511]
theorem laws_eqMatrixS.tab6 : rtab .any (opsOf Try.f31 6) = laws_eqMatrixS.T6 := by kernel_rfl
theorem laws_eqMatrixS.bits6 : waitsOk laws_eqMatrixS.T6.2 laws_eqMatrixS.B6 = true := by kernel_rfl
theorem laws_eqMatrixS.calls (k : Nat) (A0 : Option Addr) (c0 : Nat) (l0 : List (S63)) (A1 : Option Addr) (c1 : Nat) (l1 : List (S63)) (r : Bool) (w : World) (hr0 : Kd.C k63 w A0 l0.length l0) (hc0 : l0.length ≤ c0) (hr1 : Kd.C k63 w A1 l1.length l1) (hc1 : l1.length ≤ c1) (h : laws_eqMatrixS.f k l0 l1 = some r) :
 Calls Try.prog 31 #[.slice A0 l0.length c0, .slice A1 l1.length c1] w fun e w' => e = .returned (.bool r) ∧ Below w.heap.size w w' := by
 have hu63 := Try.underlying63
 have HR0 := Aq.mk hr0
 have HC0 := Aq.mk hc0
 clear hr0 hc0
 have HR1 := Aq.mk hr1
 have HC1 := Aq.mk hc1
 clear hr1 hc1
 have HB := Aq.mk (Below.refl w.heap.size w)
 have H : (if (l0.length : Int) = (l1.length : Int) then (laws_eqMatrixS.l0 k l0 l1 0) else (some false)) = some r := h
 clear h
 by_cases c3 : (l0.length : Int) = (l1.length : Int)
 rotate_left
 ·rw [if_neg c3] at H
  have c3b0 := beq_eq_false_iff_ne.mpr c3
  have c3b1 := bne_iff_ne.mpr c3
  have c3b2 : (l0.length == l1.length) = false := by first | simpa using c3 | (simp at c3 ⊢; omega)
  obtain rfl := Option.some.inj H
  go_enter Try.func31, Try.ntmps31
  go_wp2
  go_ret
  exact ⟨tE, tB⟩
 rw [if_pos c3] at H
 have c3b0 := beq_iff_eq.mpr c3
 have c3b1 := bne_eq_false_iff_eq.mpr c3
 have c3b2 : (l0.length == l1.length) = true := by first | simpa using c3 | (simp at c3 ⊢; omega)
 clear c3
 replace H' := Aq.mk H
 clear H
 go_enter Try.func31, Try.ntmps31
 go_wp2
 go_loopg [5] k (fun kq v5 w' => ∃ (x5_1 : Int), v5 = .int .i64 x5_1 ∧ Aq (laws_eqMatrixS.l0 kq l0 l1 x5_1 = some r) ∧ Aq (kq ≤ k) ∧ Aq (Below w.heap.size w w'))
 case atStart => exact ⟨(0), tS, H', ⟨Nat.le_refl _⟩, ⟨tB⟩⟩
 clear H'
 try clear c1
 try clear c3
 try clear c3b0
 try clear c3b1
 try clear c3b2
 obtain ⟨x5_1, rfl, HA, HK1, HB⟩ := hrel
 cases gk with
 | zero => exact absurd HA.out (by simp [laws_eqMatrixS.l0])
 | succ k1 =>
  have H := HA.out
  clear HA
  simp only [laws_eqMatrixS.l0] at H
  by_cases c4 : x5_1 < (l0.length : Int)
  rotate_left
  ·rw [if_neg c4] at H
   have c4b0 := decide_eq_false c4
   clear c4
   obtain rfl := Option.some.inj H
   go_wp2
   go_ret
   exact ⟨tE, tB⟩
  rw [if_pos c4] at H
  have c4b0 := decide_eq_true c4
  clear c4
  by_cases c5 : 0 ≤ x5_1
  rotate_left
  ·rw [if_neg c5] at H
   exact absurd H (by simp)
  rw [if_pos c5] at H
  have c5b0 := decide_eq_true c5
  clear c5
  by_cases c6 : x5_1 < (l1.length : Int)
  rotate_left
  ·rw [if_neg c6] at H
   exact absurd H (by simp)
  rw [if_pos c6] at H
  have c6b0 := decide_eq_true c6
  clear c6
  obtain ⟨t717, A7, H⟩ := qBd H
  by_cases c8 : t717 = true
  ·subst c8
   rw [if_pos rfl] at H
   replace H' := Aq.mk H
   clear H
   try go_wp2
   have n0_ := Aq.mk (bQ1 HB.out)
   clear HB
   have HB := n0_
   clear n0_
   have p715 : 0 ≤ (x5_1 : Int) := of_decide_eq_true tA
   have q715 : x5_1 < (l0.length : Int) := of_decide_eq_true tA
   obtain ⟨ad715, A715_1, c715_1, e715, hx715_0, hx715_1, hl715_1, hi715_1⟩ := at_T63 HR0.out x5_1 p715 q715
   have hw715_1 := hx715_1
   have hw715_0 := hx715_0
   cases e715
   replace hx715_0 := (HB.out.cell (World.block_lt_of_cell? w _ hx715_0)).trans hx715_0
   replace hx715_1 := (HB.out.cell (World.block_lt_of_cell? w _ hx715_1)).trans hx715_1
   have HR715_1 := Aq.mk hi715_1
   have HC715_1 := Aq.mk hl715_1
   clear hi715_1 hl715_1
   replace p715 := eq_true p715
   replace q715 := eq_true q715
   have p716 : 0 ≤ (x5_1 : Int) := of_decide_eq_true tA
   have q716 : x5_1 < (l1.length : Int) := of_decide_eq_true tA
   obtain ⟨ad716, A716_1, c716_1, e716, hx716_0, hx716_1, hl716_1, hi716_1⟩ := at_T63 HR1.out x5_1 p716 q716
   have hw716_1 := hx716_1
   have hw716_0 := hx716_0
   cases e716
   replace hx716_0 := (HB.out.cell (World.block_lt_of_cell? w _ hx716_0)).trans hx716_0
   replace hx716_1 := (HB.out.cell (World.block_lt_of_cell? w _ hx716_1)).trans hx716_1
   have HR716_1 := Aq.mk hi716_1
   have HC716_1 := Aq.mk hl716_1
   clear hi716_1 hl716_1
   replace p716 := eq_true p716
   replace q716 := eq_true q716
   refine start_ (n := 10) (S := fun w' => w'.cell? (ad715.add ((x5_1).toNat * 2)) = some (.int .i64 ((rd_T63 l0 x5_1).f0)) ∧ w'.cell? ⟨(ad715.add ((x5_1).toNat * 2)).block, (ad715.add ((x5_1).toNat * 2)).off + 1, none⟩ = some (.slice A715_1 ((rd_T63 l0 x5_1).f1).length c715_1) ∧ w'.cell? (ad716.add ((x5_1).toNat * 2)) = some (.int .i64 ((rd_T63 l1 x5_1).f0)) ∧ w'.cell? ⟨(ad716.add ((x5_1).toNat * 2)).block, (ad716.add ((x5_1).toNat * 2)).off + 1, none⟩ = some (.slice A716_1 ((rd_T63 l1 x5_1).f1).length c716_1)) (ds := []) #[false, false, false, false, false, false, false, false, false, false] (by kernel_rfl) rfl rfl ⟨(tcw tB hw715_0), (tcw tB hw715_1), (tcw tB hw716_0), (tcw tB hw716_1)⟩ (fun hHeld => ?_); refine with_tabW laws_eqMatrixS.tab6 laws_eqMatrixS.bits6 (fun HT_ HW_ => ?_)
   generalize wr.drew = w9 at HB HR715_1 HR716_1 hx715_0 hx715_1 hx716_0 hx716_1 hHeld ⊢
   refine tP0 0 17 (bm 10 1) ?_
   refine tP0 1 18 (bm 10 3) ?_
   refine tP0 2 19 (bm 10 7) ?_
   refine tP0 4 21 (bm 10 23) ?_
   refine tP0 5 22 (bm 10 55) ?_
   refine tP0 6 23 (bm 10 119) ?_
   refine tT4 3 20 (bm 10 127) ?_
   refine tT4 7 24 (bm 10 255) ?_
   refine one_ (i := 8) (N := some 25) (bm 10 511) rfl rfl (one_of HT_.out (by kernel_rfl)) (by decide) (fun K hK => ?_)
   refine goes_ Try.func38 (by kernel_rfl) rfl #[.agg #[.int .i64 ((rd_T63 l0 x5_1).f0), .slice A715_1 ((rd_T63 l0 x5_1).f1).length c715_1], .agg #[.int .i64 ((rd_T63 l1 x5_1).f0), .slice A716_1 ((rd_T63 l1 x5_1).f1).length c716_1]] (by rfl) rfl rfl tL ?_
   with_reducible refine (laws_eqMatrix.calls k1 ((rd_T63 l0 x5_1).f0) _ _ ((rd_T63 l0 x5_1).f1) ((rd_T63 l1 x5_1).f0) _ _ ((rd_T63 l1 x5_1).f1) true _ ?s1 ?s2 ?s3 ?s4 A7.out).mono ?_
   (case s1 => exact tC ((Kd.C_below HR715_1.out HB.out)))
   (case s2 => exact HC715_1.out)
   (case s3 => exact tC ((Kd.C_below HR716_1.out HB.out)))
   (case s4 => exact HC716_1.out)
   rintro e w10 ⟨rfl, hb⟩
   refine ⟨_, rfl, ?_⟩
   have n0_ := Aq.mk (bQT tB hb)
   clear HB
   have HB := n0_
   clear n0_
   (try clear hb)
   (try clear hb2)
   (try clear hk)
   (try clear hi)
   refine hK.out _ _ ⟨(tcw tB hw715_0), (tcw tB hw715_1), (tcw tB hw716_0), (tcw tB hw716_1)⟩ (fun hHeld => ?_)
   clear hK K
   refine tN 25 ?_
   refine tP0 9 26 (bm 10 1023) ?_
   refine done_ (done_of HT_.out (by kernel_rfl)) ?_
   try go_wp2
   go_roundg k1
   case measure => have := HK1.out; omega
   case rel => exact ⟨(wrap64 (x5_1 + 1)), tS, H', ⟨by have := HK1.out; omega⟩, ⟨tB⟩⟩
  replace c8 := Bool.eq_false_iff.mpr c8
  subst c8
  rw [if_neg (show ¬ (false = true) by decide)] at H
  obtain rfl := Option.some.inj H
  try go_wp2
  have n0_ := Aq.mk (bQ1 HB.out)
  clear HB
  have HB := n0_
  clear n0_
  have p715 : 0 ≤ (x5_1 : Int) := of_decide_eq_true tA
  have q715 : x5_1 < (l0.length : Int) := of_decide_eq_true tA
  obtain ⟨ad715, A715_1, c715_1, e715, hx715_0, hx715_1, hl715_1, hi715_1⟩ := at_T63 HR0.out x5_1 p715 q715
  have hw715_1 := hx715_1
  have hw715_0 := hx715_0
  cases e715
  replace hx715_0 := (HB.out.cell (World.block_lt_of_cell? w _ hx715_0)).trans hx715_0
  replace hx715_1 := (HB.out.cell (World.block_lt_of_cell? w _ hx715_1)).trans hx715_1
  have HR715_1 := Aq.mk hi715_1
  have HC715_1 := Aq.mk hl715_1
  clear hi715_1 hl715_1
  replace p715 := eq_true p715
  replace q715 := eq_true q715
  have p716 : 0 ≤ (x5_1 : Int) := of_decide_eq_true tA
  have q716 : x5_1 < (l1.length : Int) := of_decide_eq_true tA
  obtain ⟨ad716, A716_1, c716_1, e716, hx716_0, hx716_1, hl716_1, hi716_1⟩ := at_T63 HR1.out x5_1 p716 q716
  have hw716_1 := hx716_1
  have hw716_0 := hx716_0
  cases e716
  replace hx716_0 := (HB.out.cell (World.block_lt_of_cell? w _ hx716_0)).trans hx716_0
  replace hx716_1 := (HB.out.cell (World.block_lt_of_cell? w _ hx716_1)).trans hx716_1
  have HR716_1 := Aq.mk hi716_1
  have HC716_1 := Aq.mk hl716_1
  clear hi716_1 hl716_1
  replace p716 := eq_true p716
  replace q716 := eq_true q716
  refine start_ (n := 10) (S := fun w' => w'.cell? (ad715.add ((x5_1).toNat * 2)) = some (.int .i64 ((rd_T63 l0 x5_1).f0)) ∧ w'.cell? ⟨(ad715.add ((x5_1).toNat * 2)).block, (ad715.add ((x5_1).toNat * 2)).off + 1, none⟩ = some (.slice A715_1 ((rd_T63 l0 x5_1).f1).length c715_1) ∧ w'.cell? (ad716.add ((x5_1).toNat * 2)) = some (.int .i64 ((rd_T63 l1 x5_1).f0)) ∧ w'.cell? ⟨(ad716.add ((x5_1).toNat * 2)).block, (ad716.add ((x5_1).toNat * 2)).off + 1, none⟩ = some (.slice A716_1 ((rd_T63 l1 x5_1).f1).length c716_1)) (ds := []) #[false, false, false, false, false, false, false, false, false, false] (by kernel_rfl) rfl rfl ⟨(tcw tB hw715_0), (tcw tB hw715_1), (tcw tB hw716_0), (tcw tB hw716_1)⟩ (fun hHeld => ?_); refine with_tabW laws_eqMatrixS.tab6 laws_eqMatrixS.bits6 (fun HT_ HW_ => ?_)
  generalize wr.drew = w11 at HB HR715_1 HR716_1 hx715_0 hx715_1 hx716_0 hx716_1 hHeld ⊢
  refine tP0 0 17 (bm 10 1) ?_
  refine tP0 1 18 (bm 10 3) ?_
  refine tP0 2 19 (bm 10 7) ?_
  refine tP0 4 21 (bm 10 23) ?_
  refine tP0 5 22 (bm 10 55) ?_
  refine tP0 6 23 (bm 10 119) ?_
  refine tT4 3 20 (bm 10 127) ?_
  refine tT4 7 24 (bm 10 255) ?_
  refine one_ (i := 8) (N := some 25) (bm 10 511) rfl rfl (one_of HT_.out (by kernel_rfl)) (by decide) (fun K hK => ?_)
  refine goes_ Try.func38 (by kernel_rfl) rfl #[.agg #[.int .i64 ((rd_T63 l0 x5_1).f0), .slice A715_1 ((rd_T63 l0 x5_1).f1).length c715_1], .agg #[.int .i64 ((rd_T63 l1 x5_1).f0), .slice A716_1 ((rd_T63 l1 x5_1).f1).length c716_1]] (by rfl) rfl rfl tL ?_
  with_reducible refine (laws_eqMatrix.calls k1 ((rd_T63 l0 x5_1).f0) _ _ ((rd_T63 l0 x5_1).f1) ((rd_T63 l1 x5_1).f0) _ _ ((rd_T63 l1 x5_1).f1) false _ ?s1 ?s2 ?s3 ?s4 A7.out).mono ?_
  (case s1 => exact tC ((Kd.C_below HR715_1.out HB.out)))
  (case s2 => exact HC715_1.out)
  (case s3 => exact tC ((Kd.C_below HR716_1.out HB.out)))
  (case s4 => exact HC716_1.out)
  rintro e w12 ⟨rfl, hb⟩
  refine ⟨_, rfl, ?_⟩
  have n0_ := Aq.mk (bQT tB hb)
  clear HB
  have HB := n0_
  clear n0_
  (try clear hb)
  (try clear hb2)
  (try clear hk)
  (try clear hi)
  refine hK.out _ _ ⟨(tcw tB hw715_0), (tcw tB hw715_1), (tcw tB hw716_0), (tcw tB hw716_1)⟩ (fun hHeld => ?_)
  clear hK K
  refine tN 25 ?_
  refine tP0 9 26 (bm 10 1023) ?_
  refine done_ (done_of HT_.out (by kernel_rfl)) ?_
  try go_wp2
  go_ret
  exact ⟨tE, tB⟩
def laws_markMatrixS.l0 : Nat → List S63 → Int → Int → Option (Int × List S63)
  | 0, _, _, _ => none
  | k + 1, x0, x1, x5 => if x5 < (x0.length : Int) then (if 0 ≤ x5 then ((laws_markInt64S.f k (rd_T63 x0 x5).f1 (wrap64 (x1 + 1))).bind fun bt => (laws_markMatrixS.l0 k (x0.set x5.toNat ⟨x1, bt.2⟩) bt.1 (wrap64 (x5 + 1)))) else (none)) else (some (x1, x0))
def laws_markMatrixS.f (k : Nat) (l0 : List S63) (a1 : Int) : Option (Int × List S63) := laws_markMatrixS.l0 k l0 a1 0
theorem laws_markMatrixS.mono_l : ∀ k, (∀ y0 y1 y2, LeO (laws_markMatrixS.l0 k y0 y1 y2) (laws_markMatrixS.l0 (k + 1) y0 y1 y2))
 | 0 => fun _ _ _ r h => by simp [laws_markMatrixS.l0] at h
 | k + 1 => by
  have ih0 := laws_markMatrixS.mono_l k
  intro y0 y1 y2
  unfold laws_markMatrixS.l0
  repeat' first
   | (with_reducible first | first | apply ih0 | apply laws_markInt64S.mono | exact LeO.refl _ | exact LeO.none _ | refine LeO.ite ?_ ?_ | refine LeO.bind ?_ (fun _ => ?_))
   | exact LeO.none _
   | refine LeO.ite ?_ ?_
   | refine LeO.bind ?_ (fun _ => ?_)
theorem laws_markMatrixS.mono : ∀ a0 a1 k, LeO (laws_markMatrixS.f k a0 a1) (laws_markMatrixS.f (k + 1) a0 a1) := fun a0 a1 k => laws_markMatrixS.mono_l k a0 a1 0
theorem T_marked {base : Nat} {P0 : Nat → Prop} {g n c : Nat} {l : List S63} {W : World} (h : Kd.S k63 63 W base P0 (.slice (some ⟨g, 0, none⟩) n c) l) {i : Int} (h0 : 0 ≤ i) (h1 : i < n) (x : Int) :
 W.cell? ⟨g, i.toNat * 2, none⟩ = some (.int .i64 (rd_T63 l i).f0) ∧ W.frozen? ⟨g, i.toNat * 2, none⟩ = false ∧ W.grownBy (W.setCell ⟨g, i.toNat * 2, none⟩ (.int .i64 x)) (some g) ∧
  Kd.S k63 63 (W.setCell ⟨g, i.toNat * 2, none⟩ (.int .i64 x)) base P0 (.slice (some ⟨g, 0, none⟩) n c) (l.set i.toNat ⟨x, (rd_T63 l i).f1⟩) := by
 obtain ⟨oki, ce, hcl, hM, hcc, hfr, hoki, hH⟩ := Kd.S_elem h z63 i h0 h1
 obtain ⟨v1, rfl, gR⟩ := k63_openM hM
 have hx0 := hcc 0 _ rfl
 have hf0 := hfr 0
 have hS := Kd.S_seg0 hH h0 h1 (seg := [.int .i64 x]) (j := 0) (show 1 ≤ 2 from by decide) (x' := (⟨x, (rd_T63 l i).f1⟩ : S63)) (k63_mkM _ _ _ (⟨x, (rd_T63 l i).f1⟩ : S63) gR) (fun _ hk => hk)
 exact ⟨hx0, hf0, hS.2, hS.1⟩
theorem T_row {base : Nat} {P0 : Nat → Prop} {g n c : Nat} {l : List S63} {W : World} (h : Kd.S k63 63 W base P0 (.slice (some ⟨g, 0, none⟩) n c) l) {i : Int} (h0 : 0 ≤ i) (h1 : i < n) :
 ∃ A1 c1, ∃ oki : Nat → Prop, W.cell? ⟨g, i.toNat * 2 + 1, none⟩ = some (.slice A1 (rd_T63 l i).f1.length c1) ∧ Kd.R (Kd.int .i64) 2 W base oki (.slice A1 (rd_T63 l i).f1.length c1) (rd_T63 l i).f1 ∧ (∀ k, oki k → P0 k) ∧
  ∀ (W2 : World) (r2 : List Int), Kept W W2 oki → Kd.R (Kd.int .i64) 2 W2 base (fun k => oki k ∨ W.heap.size ≤ k) (.slice A1 (rd_T63 l i).f1.length c1) r2 → Kd.S k63 63 W2 base P0 (.slice (some ⟨g, 0, none⟩) n c) (l.set i.toNat ⟨(rd_T63 l i).f0, r2⟩) := by
 obtain ⟨oki, cs, _, hM, hcc, hok, hH⟩ := Kd.S_lend h z63 i h0 h1
 obtain ⟨v1, rfl, gR⟩ := k63_openM hM
 have gR' : Kd.R (Kd.int .i64) 2 W base oki v1 (rd_T63 l i).f1 := gR
 obtain ⟨A1, c1, rfl⟩ := Kd.R_slice gR'
 refine ⟨A1, c1, oki, hcc 1 _ rfl, gR', fun k hk => (hok k hk).1, fun W2 r2 hk hR2 => ?_⟩
 refine Kd.H_back (Kd.H_kept hH hk (fun k _ hn hs => hn hs)) (okp := fun k => some k = (Value.slice A1 (rd_T63 l i).f1.length c1).ownBlock) (k63_mkM _ _ _ (⟨(rd_T63 l i).f0, r2⟩ : S63) (Kd.R_tight rfl hR2)) (fun k hk2 => gR'.1 k hk2.symm)
theorem laws_markMatrixS.calls (k : Nat) (P0 : Nat → Prop) (A0 : Option Addr) (c0 : Nat) (l0 : List S63) (a1 r1 : Int) (r2 : List S63) (w0 w : World) (hB : Below w0.heap.size w0 w)
 (ho0 : Kd.S k63 63 w w0.heap.size P0 (.slice A0 l0.length c0) l0) (h : laws_markMatrixS.f k l0 a1 = some (r1, r2)) :
 Calls Try.prog 32 #[.slice A0 l0.length c0, .int .i64 a1] w fun e w' => e = .returned (.int .i64 r1) ∧ Kd.S k63 63 w' w0.heap.size P0 (.slice A0 l0.length c0) r2 ∧ r2.length = l0.length ∧ Below w0.heap.size w0 w' ∧ Kept w w' P0 := by
 have hu63 := Try.underlying63
 have HB := Aq.mk hB
 have HO := Aq.mk ho0
 have HK := Aq.mk (Kept.refl w P0)
 have H' := Aq.mk (show laws_markMatrixS.l0 k l0 a1 0 = some (r1, r2) from h)
 clear h ho0 hB
 go_enter Try.func32, Try.ntmps32
 go_wp2
 go_loopg [1, 5] k (fun kq v1 v5 w' => ∃ (x0_1 : List S63) (x1_1 : Int) (x5_1 : Int), v1 = .int .i64 x1_1 ∧ v5 = .int .i64 x5_1 ∧ Aq (x0_1.length = l0.length) ∧ Aq (laws_markMatrixS.l0 kq x0_1 x1_1 x5_1 = some (r1, r2)) ∧ Aq (kq ≤ k) ∧ Aq (Kd.S k63 63 w' w0.heap.size P0 (.slice A0 l0.length c0) x0_1) ∧ Aq (Below w0.heap.size w0 w') ∧ Aq (Kept w w' P0))
 case atStart => exact ⟨l0, a1, 0, rfl, rfl, ⟨rfl⟩, H', ⟨Nat.le_refl _⟩, HO, HB, HK⟩
 clear H' HO HB HK
 obtain ⟨x0_1, x1_1, x5_1, rfl, rfl, HL, HA, HK1, HO, HB, HK⟩ := hrel
 cases gk with
 | zero => exact absurd HA.out (by simp [laws_markMatrixS.l0])
 | succ k1 =>
  have H := HA.out
  clear HA
  simp only [laws_markMatrixS.l0] at H
  by_cases c3 : x5_1 < (x0_1.length : Int)
  rotate_left
  ·rw [if_neg c3] at H
   rw [HL.out] at c3
   have c3b0 := decide_eq_false c3
   clear c3
   simp only [Option.some.injEq, Prod.mk.injEq] at H
   obtain ⟨rfl, rfl⟩ := H
   go_wp2
   go_ret
   exact ⟨tS, HO.out, HL.out, HB.out, HK.out⟩
  rw [if_pos c3] at H
  rw [HL.out] at c3
  have c3b0 := decide_eq_true c3
  by_cases c4 : 0 ≤ x5_1
  rotate_left
  ·rw [if_neg c4] at H
   exact absurd H (by simp)
  rw [if_pos c4] at H
  have c4b0 := decide_eq_true c4
  obtain ⟨⟨q1, q2⟩, A50, H⟩ := Option.bind_eq_some_iff.mp H
  have H' := Aq.mk (show laws_markMatrixS.l0 k1 (x0_1.set x5_1.toNat ⟨x1_1, q2⟩) q1 (wrap64 (x5_1 + 1)) = some (r1, r2) from H)
  have A5 := Aq.mk A50
  clear H A50
  have hle := (Kd.S_reads' HO.out).1
  obtain ⟨g, cap, eq_, gb_, _, _⟩ := Kd.S_form HO.out (by omega)
  injection eq_ with e1_ e2_ e3_
  subst e1_
  subst e3_
  clear e2_
  have GB := Aq.mk gb_
  have hPg := HO.out
  have hPg' := (Kd.S_R hPg).1 g (by simp [Value.ownBlock])
  have HPG := Aq.mk hPg'
  obtain ⟨hx0, hf0, hg1, hS1⟩ := T_marked HO.out c4 c3 x1_1
  obtain ⟨A1, c1, oki, hc, hR, hP, hback⟩ := T_row hS1 c4 c3
  have er : rd_T63 (x0_1.set x5_1.toNat ⟨x1_1, (rd_T63 x0_1 x5_1).f1⟩) x5_1 = ⟨x1_1, (rd_T63 x0_1 x5_1).f1⟩ := by simp [rd_T63, List.getD, show x5_1.toNat < x0_1.length by omega]
  rw [er] at hc hR hback
  have HN := Aq.mk (⟨c4, c3⟩ : 0 ≤ x5_1 ∧ x5_1 < (l0.length : Int))
  have n2_ := Aq.mk (bQS HB.out GB.out : Below w0.heap.size w0 (wr.setCell ⟨g, x5_1.toNat * 2, none⟩ (.int .i64 x1_1)))
  have n3_ := Aq.mk (HK.out.setCell (p := ⟨g, x5_1.toNat * 2, none⟩) (.inl HPG.out) (.int .i64 x1_1))
  have HR := Aq.mk hR
  have HP := Aq.mk hP
  have HBK := Aq.mk (show ∀ (W2 : World) (r2 : List Int), Kept (wr.setCell ⟨g, x5_1.toNat * 2, none⟩ (.int .i64 x1_1)) W2 oki → Kd.R (Kd.int .i64) 2 W2 w0.heap.size (fun k => oki k ∨ (wr.setCell ⟨g, x5_1.toNat * 2, none⟩ (.int .i64 x1_1)).heap.size ≤ k) (.slice A1 (rd_T63 x0_1 x5_1).f1.length c1) r2 → Kd.S k63 63 W2 w0.heap.size P0 (.slice (some ⟨g, 0, none⟩) l0.length c0) (x0_1.set x5_1.toNat ⟨x1_1, r2⟩) from fun W2 r2 a b => by have h_ := hback W2 r2 a b; rwa [List.set_set] at h_)
  have p312 : (0 ≤ x5_1) = True := eq_true c4
  have q312 : (x5_1 < (l0.length : Int)) = True := eq_true c3
  clear hle er hR hP hback c3 c4 hg1 hS1 hPg hPg' gb_ HB HK HO
  go_wp2_with (first
   | ((with_reducible refine gate_store (t := 2) (p := 16) rfl ?_); refine store_event (t := 2) (p := 16) (v := ?vo_w33) (w1 := (wr.setCell ⟨g, x5_1.toNat * 2, none⟩ (.int .i64 x1_1))) ?hg ?ho ?hn ?hr ?_; (case ho => rfl); (case hg => rfl); (case hn => rfl); (case hr => exact tH); intro w33 hw; rw [← hw] at hc HR HBK n2_ n3_; clear hw hx0 hf0; have HB := n2_; have HK := n3_; clear n2_ n3_)
   | ((with_reducible refine gQc (f := 25) rfl ?_); refine goesL_ (some 25) rfl rfl Try.func25 (by kernel_rfl) rfl #[.slice A1 (rd_T63 x0_1 x5_1).f1.length c1, .int .i64 (wrap64 (x1_1 + 1))] rfl tL ?_; (with_reducible refine (laws_markInt64S.calls k1 _ _ (rd_T63 x0_1 x5_1).f1 (wrap64 (x1_1 + 1)) q1 q2 w0 _ HB.out HR.out A5.out).mono ?_); rintro e w' ⟨rfl, hr, hb, hk⟩; have n1_ := Aq.mk (HBK.out w' q2 hk hr); have n2_ := Aq.mk hb; have n3_ := Aq.mk (HK.out.then_ hk (fun k_ hk_ => .inl (HP.out k_ hk_))); clear HB HK; have HO := n1_; have HB := n2_; have HK := n3_; clear n1_ n2_ n3_ hk hb hr; refine ⟨_, rfl, ?_⟩))
  go_roundg k1
  case measure => have := HK1.out; omega
  case rel => exact ⟨x0_1.set x5_1.toNat ⟨x1_1, q2⟩, q1, wrap64 (x5_1 + 1), rfl, rfl, ⟨by rw [List.length_set]; exact HL.out⟩, H', ⟨by have := HK1.out; omega⟩, HO, HB, HK⟩
end Go.Proofs.Ytbalkaphibnpcaa.P
