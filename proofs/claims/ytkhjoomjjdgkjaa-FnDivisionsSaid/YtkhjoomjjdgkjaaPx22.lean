/- Functions of the program and what they tell, as the printing program wrote it. -/
import Derived.Test.YtkhjoomjjdgkjaaPx0
import Derived.Test.YtkhjoomjjdgkjaaPx2
import Derived.Test.YtkhjoomjjdgkjaaPx10
import Derived.Test.YtkhjoomjjdgkjaaPx11
namespace Go.Proofs.Ytkhjoomjjdgkjaa.P
open Go.Shelf Go.RowKit Go.Proofs.YtkhjoomjjdgkjaaW.PrintWords Go.Proofs.YtkhjoomjjdgkjaaW.PrintLast Go.Proofs.YtkhjoomjjdgkjaaW.PrintMore
attribute [local go_sem] max2_int min2_int max_two min_two max_three min_three max_four min_four
set_option linter.unusedVariables false
set_option linter.unusedSimpArgs false
set_option maxHeartbeats 8000000
set_option maxRecDepth 100000
def spec_l03Root.f (k : Nat) (a0_0 : Int) (a0_1 : Int) (a1 : Int) (a2 : Int) : Option (Int) := if a0_0 = 0 then (none) else ((spec_l01Square.f k a0_0 a0_1 a1 (wrap64 (a0_0 - (Int.tmod a2 a0_0)))).bind fun t438 => (some t438))
theorem spec_l03Root.mono : ∀ a0 a1 a2 a3 k, LeO (spec_l03Root.f k a0 a1 a2 a3) (spec_l03Root.f (k + 1) a0 a1 a2 a3) := by
 intro a0 a1 a2 a3 k
 unfold spec_l03Root.f
 repeat' first
  | (with_reducible first | apply spec_l01Square.mono | exact LeO.refl _ | exact LeO.none _ | refine LeO.ite ?_ ?_ | refine LeO.bind ?_ (fun _ => ?_))
  | exact LeO.none _
  | refine LeO.ite ?_ ?_
  | refine LeO.bind ?_ (fun _ => ?_)
def spec_l03Root.T1 : Bool × List (List Nat × List Nat) := (true, [([], []), ([], []), ([], []), ([2], [2]), ([], []), ([], []), ([5], [5]), ([4, 6], [4, 6]), ([3, 7], [3, 7]), ([0, 1, 8], [0, 1, 8]), ([9, 9, 0, 1, 2, 3, 4, 5, 6, 7, 8, 9], [9])])
def spec_l03Root.B1 : List Nat := [0, 0, 0, 4, 0, 0, 32, 112, 252, 511, 1023]
theorem spec_l03Root.tab1 : rtab .any (opsOf Try.f68 1) = spec_l03Root.T1 := by kernel_rfl
theorem spec_l03Root.bits1 : waitsOk spec_l03Root.T1.2 spec_l03Root.B1 = true := by kernel_rfl
theorem spec_l03Root.calls (k : Nat) (a0_0 : Int) (a0_1 : Int) (a1 : Int) (a2 : Int) (r : Int) (w : World) (h : spec_l03Root.f k a0_0 a0_1 a1 a2 = some r) :
 Calls Try.prog 68 #[.agg #[.int .i64 a0_0, .int .i64 a0_1], .int .i64 a1, .int .i64 a2] w fun e w' => e = .returned (.int .i64 r) ∧ Below w.heap.size w w' := by
 have hu27 := Try.underlying27
 have HB := Aq.mk (Below.refl w.heap.size w)
 have H : (if a0_0 = 0 then (none) else ((spec_l01Square.f k a0_0 a0_1 a1 (wrap64 (a0_0 - (Int.tmod a2 a0_0)))).bind fun t438 => (some t438))) = some r := h
 clear h
 by_cases c4 : a0_0 = 0
 ·rw [if_pos c4] at H
  exact absurd H (by simp)
 rw [if_neg c4] at H
 have c4b0 := beq_eq_false_iff_ne.mpr c4
 have c4b1 := bne_iff_ne.mpr c4
 obtain ⟨t438, A5, H⟩ := qBd H
 obtain rfl := Option.some.inj H
 go_enter Try.func68, Try.ntmps68
 try go_wp2_with (first | ((with_reducible refine gQd (N := 3) rfl ?_); refine xQe ?hg (N := 3) ?hd (cs := #[.int .i64 a0_0, .int .i64 a0_1]) (t := 27) ?hr ?_; (case hd => rfl); (case hg => rfl); (case hr => exact tH); intro gb437 hg w6 hbox hb; refine qM4 (bQT tB hb) hbox (tZ w hg) (tZ w hg) ?_; clear HB; intro HB BK437 GW437 GE437; clear hb hbox hg))
 have n0_ := Aq.mk (kQD BK437.out)
 have n1_ := Aq.mk (bQ1 HB.out)
 clear BK437
 clear HB
 have BK437 := n0_
 have HB := n1_
 clear n0_ n1_
 refine start_ (n := 11) (S := fun w' => w'.cell? ⟨gb437, 0, none⟩ = some (.int .i64 a0_0) ∧ w'.cell? ⟨gb437, 1, none⟩ = some (.int .i64 a0_1)) (ds := []) #[false, false, false, false, false, false, false, false, false, false, false] (by kernel_rfl) rfl rfl ⟨(kQC BK437.out 0).trans rfl, (kQC BK437.out 1).trans rfl⟩ (fun hHeld => ?_); refine with_tabW spec_l03Root.tab1 spec_l03Root.bits1 (fun HT_ HW_ => ?_)
 generalize w6.drew = w7 at BK437 HB hHeld ⊢
 refine tP0 1 8 (bm 11 2) ?_
 refine tP0 2 9 (bm 11 6) ?_
 refine tP0 4 11 (bm 11 22) ?_
 refine tP0 5 12 (bm 11 54) ?_
 refine tT2 0 7 (bm 11 55) ?_
 refine tT2 3 10 (bm 11 63) ?_
 refine tT2 6 13 (bm 11 127) ?_
 refine tP0 7 14 (bm 11 255) ?_
 refine tP0 8 15 (bm 11 511) ?_
 refine one_ (i := 9) (N := some 16) (bm 11 1023) rfl rfl (one_of HT_.out (by kernel_rfl)) (by decide) (fun K hK => ?_)
 refine goes_ Try.func63 (by kernel_rfl) rfl #[.agg #[.int .i64 a0_0, .int .i64 a0_1], .int .i64 a1, .int .i64 (wrap64 (a0_0 - (Int.tmod a2 a0_0)))] (by rfl) rfl rfl tL ?_
 with_reducible refine (spec_l01Square.calls k a0_0 a0_1 a1 (wrap64 (a0_0 - (Int.tmod a2 a0_0))) t438 _ A5.out).mono ?_
 rintro e w8 ⟨rfl, hb⟩
 refine ⟨_, rfl, ?_⟩
 have n0_ := Aq.mk (tQ BK437.out hb)
 have n1_ := Aq.mk (bQT tB hb)
 clear BK437
 clear HB
 have BK437 := n0_
 have HB := n1_
 clear n0_ n1_
 (try clear hb)
 (try clear hb2)
 (try clear hk)
 (try clear hi)
 refine hK.out _ _ ⟨(kQC BK437.out 0).trans rfl, (kQC BK437.out 1).trans rfl⟩ (fun hHeld => ?_)
 clear hK K
 refine tN 16 ?_
 refine tP0 10 6 (bm 11 2047) ?_
 refine done_ (done_of HT_.out (by kernel_rfl)) ?_
 try go_wp2
 go_ret
 exact ⟨tE, tB⟩
def spec_l03Left.l0 : Nat → List Int → List Int → List Int → Int → Int → Int → Option (List Int × List Int)
  | 0, _, _, _, _, _, _ => none
  | k + 1, x2, x8, x9, x10, x440000, x440001 => if (x9.length : Int) ≥ (x2.length : Int) then (if 0 ≤ (wrap64 ((x9.length : Int) - 1)) then (if (wrap64 ((x9.length : Int) - 1)) < (x9.length : Int) then ((spec_l01Inverse.f k x440000 x440001 x10).bind fun t448 => ((spec_l01Mul.f k x440000 x440001 (rd x9 (wrap64 ((x9.length : Int) - 1))) t448).bind fun t449 => ((spec_l03Root.f k x440000 x440001 t449 (wrap64 ((x2.length : Int) - 1))).bind fun t450 => ((spec_l03Term.f t450 (wrap64 ((x9.length : Int) - (x2.length : Int)))).bind fun t451 => ((spec_l03Sum.f k x8 t451).bind fun t454 => ((spec_l03Compose.f k x440000 x440001 x2 t451).bind fun t457 => ((spec_l03Sum.f k x9 t457).bind fun t460 => (spec_l03Left.l0 k x2 t454 t460 x10 x440000 x440001)))))))) else (none)) else (none)) else (some (x8, x9))
def spec_l03Left.f (k : Nat) (a0_0 : Int) (a0_1 : Int) (l1 : List Int) (l2 : List Int) : Option (List Int × List Int) := (spec_l00Own.f l1).bind fun t443 => (if 0 ≤ (wrap64 ((l2.length : Int) - 1)) then (if (wrap64 ((l2.length : Int) - 1)) < (l2.length : Int) then (spec_l03Left.l0 k l2 (([] : List Int)) t443 (rd l2 (wrap64 ((l2.length : Int) - 1))) a0_0 a0_1) else (none)) else (none))
theorem spec_l03Left.mono_l : ∀ k, (∀ y0 y1 y2 y3 y4 y5, LeO (spec_l03Left.l0 k y0 y1 y2 y3 y4 y5) (spec_l03Left.l0 (k + 1) y0 y1 y2 y3 y4 y5))
 | 0 => fun _ _ _ _ _ _ r h => by simp [spec_l03Left.l0] at h
 | k + 1 => by
  have ih0 := spec_l03Left.mono_l k
  ·intro y0 y1 y2 y3 y4 y5
   unfold spec_l03Left.l0
   repeat' first
   | (with_reducible first | apply ih0 | apply spec_l01Inverse.mono | apply spec_l01Mul.mono | apply spec_l03Compose.mono | apply spec_l03Root.mono | apply spec_l03Sum.mono | exact LeO.refl _ | exact LeO.none _ | refine LeO.ite ?_ ?_ | refine LeO.bind ?_ (fun _ => ?_))
   | exact LeO.none _
   | refine LeO.ite ?_ ?_
   | refine LeO.bind ?_ (fun _ => ?_)
theorem spec_l03Left.mono : ∀ a0 a1 a2 a3 k, LeO (spec_l03Left.f k a0 a1 a2 a3) (spec_l03Left.f (k + 1) a0 a1 a2 a3) := by
 intro a0 a1 a2 a3 k
 have ih0 := spec_l03Left.mono_l k
 unfold spec_l03Left.f
 repeat' first
  | (with_reducible first | apply ih0 | apply spec_l01Inverse.mono | apply spec_l01Mul.mono | apply spec_l03Compose.mono | apply spec_l03Root.mono | apply spec_l03Sum.mono | exact LeO.refl _ | exact LeO.none _ | refine LeO.ite ?_ ?_ | refine LeO.bind ?_ (fun _ => ?_))
  | exact LeO.none _
  | refine LeO.ite ?_ ?_
  | refine LeO.bind ?_ (fun _ => ?_)
def spec_l03Left.T6 : Bool × List (List Nat × List Nat) := (true, [([], []), ([], []), ([], []), ([], []), ([3], [3]), ([4], [4]), ([2, 5], [2, 5]), ([6], [6]), ([], []), ([], []), ([8, 9], [8, 9]), ([1, 7, 10, 10], [1, 7, 10]), ([], []), ([12], [12]), ([13], [13]), ([0, 11, 14, 11], [0, 11, 14]), ([15, 15, 0, 1, 2, 3, 4, 5, 6, 7, 8, 9, 10, 11, 12, 13, 14, 15], [15])])
def spec_l03Left.B6 : List Nat := [0, 0, 0, 0, 8, 24, 60, 124, 0, 0, 768, 2046, 0, 4096, 12288, 32767, 65535]
theorem spec_l03Left.tab6 : rtab .any (opsOf Try.f35 6) = spec_l03Left.T6 := by kernel_rfl
theorem spec_l03Left.bits6 : waitsOk spec_l03Left.T6.2 spec_l03Left.B6 = true := by kernel_rfl
theorem spec_l03Left.calls (k : Nat) (a0_0 : Int) (a0_1 : Int) (A1 : Option Addr) (c1 : Nat) (l1 : List Int) (A2 : Option Addr) (c2 : Nat) (l2 : List Int) (r1 : List Int) (r2 : List Int) (w : World) (hr1 : Kd.C (Kd.int .i64) w A1 l1.length l1) (hc1 : l1.length ≤ c1) (hr2 : Kd.C (Kd.int .i64) w A2 l2.length l2) (hc2 : l2.length ≤ c2) (h : spec_l03Left.f k a0_0 a0_1 l1 l2 = some (r1, r2)) :
 Calls Try.prog 35 #[.agg #[.int .i64 a0_0, .int .i64 a0_1], .slice A1 l1.length c1, .slice A2 l2.length c2] w fun e w' => ∃ v0_ v1_ : Value, e = .returned (.tuple #[v0_, v1_]) ∧ Kd.R (Kd.int .i64) 2 w' w.heap.size (fun k_ => some k_ ≠ (v1_ : Value).ownBlock) v0_ r1 ∧ Kd.R (Kd.int .i64) 2 w' w.heap.size (fun k_ => some k_ ≠ (v0_ : Value).ownBlock) v1_ r2 ∧ Below w.heap.size w w' := by
 have hu27 := Try.underlying27
 have HR1 := Aq.mk hr1
 have HC1 := Aq.mk hc1
 clear hr1 hc1
 have HR2 := Aq.mk hr2
 have HC2 := Aq.mk hc2
 clear hr2 hc2
 have HB := Aq.mk (Below.refl w.heap.size w)
 have H : ((spec_l00Own.f l1).bind fun t443 => (if 0 ≤ (wrap64 ((l2.length : Int) - 1)) then (if (wrap64 ((l2.length : Int) - 1)) < (l2.length : Int) then (spec_l03Left.l0 k l2 (([] : List Int)) t443 (rd l2 (wrap64 ((l2.length : Int) - 1))) a0_0 a0_1) else (none)) else (none))) = some (r1, r2) := h
 clear h
 obtain ⟨y440, hy440⟩ : ∃ y_ : List Int, y_ = (([] : List Int)) := ⟨_, rfl⟩
 replace H : ((spec_l00Own.f l1).bind fun t443 => (if 0 ≤ (wrap64 ((l2.length : Int) - 1)) then (if (wrap64 ((l2.length : Int) - 1)) < (l2.length : Int) then (spec_l03Left.l0 k l2 y440 t443 (rd l2 (wrap64 ((l2.length : Int) - 1))) a0_0 a0_1) else (none)) else (none))) = some (r1, r2) := by first | (rw [hy440]; with_reducible exact H) | (have H2_ := (Option.bind_some _ _).symm.trans H; rw [hy440]; with_reducible exact H2_) | (have H2_ := (Option.bind_some _ _).symm.trans H; with_reducible exact H2_) | with_reducible exact H | (rw [hy440]; exact H) | exact H
 have Ny440 := Aq.mk hy440
 clear hy440
 obtain ⟨t443, A4, H⟩ := qBd H
 obtain ⟨ji5, hji5⟩ : ∃ j_ : Int, (wrap64 ((l2.length : Int) - 1)) = j_ := ⟨_, rfl⟩
 first | rw [hji5] at H | simp only [hji5] at H | skip
 (try rw [hji5] at A4)
 have hji5w : (IntKind.i64.wrap ((l2.length : Int) - 1)) = ji5 := (i64_w _).trans hji5
 by_cases c6 : 0 ≤ (ji5)
 rotate_left
 ·rw [if_neg c6] at H
  exact absurd H (by simp)
 rw [if_pos c6] at H
 have c6b0 := decide_eq_true c6
 clear c6
 by_cases c7 : (ji5) < (l2.length : Int)
 rotate_left
 ·rw [if_neg c7] at H
  exact absurd H (by simp)
 rw [if_pos c7] at H
 have c7b0 := decide_eq_true c7
 clear c7
 replace H' := Aq.mk H
 clear H
 go_enter Try.func35, Try.ntmps35
 go_wp2_with (first | ((with_reducible refine gQd (N := 3) rfl ?_); refine xQe ?hg (N := 3) ?hd (cs := #[.int .i64 a0_0, .int .i64 a0_1]) (t := 27) ?hr ?_; (case hd => rfl); (case hg => rfl); (case hr => exact tH); intro gb439 hg w8 hbox hb; refine qM4 (bQT tB hb) hbox (tZ w hg) (tZ w hg) ?_; clear HB; intro HB BK439 GW439 GE439; clear hb hbox hg) | ((with_reducible refine gQd (N := 14) rfl ?_); refine Kd.R_lit (Kd.int .i64) _ 2 ?hg (N := 14) ?hd (xs := ([] : List Int)) (inner := []) (ok := fun _ => True) (okp := fun _ => True) ?hr ?hp (fun _ hk => hk) trivial (Below.refl _ _) (Nat.le_refl _) (by simp) ?_; (case hd => rfl); (case hg => rfl); (case hr => exact tH); (case hp => exact (Reps.none _ _)); intro v441 w9 ho10 hb hg_ hnew_; clear hg_ hnew_; (first | rw [← Ny440.out] at ho10 | (simp only [Int.reduceToNat] at ho10; rw [← Ny440.out] at ho10)); refine qM3 (Kd.R_lower ho10 (bQZ tB)) (tQ BK439.out hb) (bQT tB hb) ?_; clear BK439 HB; intro HO442 BK439 HB; clear hb ho10) | ((with_reducible refine gQc (f := 60) rfl ?_); refine goesL_ (some 16) rfl rfl Try.func60 (by kernel_rfl) rfl #[.slice A1 l1.length c1] rfl tL ?_; (with_reducible refine (spec_l00Own.calls _ _ l1 t443 _ ?s1 ?s2 A4.out).mono ?_); (case s1 => exact tC ((Kd.C_below HR1.out HB.out))); (case s2 => exact HC1.out); rintro e w11 ⟨v444, rfl, ho0, hb⟩; refine ⟨_, rfl, ?_⟩; refine qM4 (Kd.R_elder' (tR HO442.out) (Kd.R_base ho0) hb) (Kd.R_lower (Kd.R_new' ho0 (Kd.R_lt (tR HO442.out))) (bQZ tB)) (tQ BK439.out hb) (bQT tB hb) ?_; clear HO442 BK439 HB; intro HO442 HO445 BK439 HB; (try clear hb); (try clear hb2); (try clear hk); (try clear hi); (try clear ho0); have p446 : 0 ≤ ((ji5) : Int) := of_decide_eq_true tA; have q446 : (ji5) < (l2.length : Int) := of_decide_eq_true tA; obtain ⟨ad446, e446, hx446_0⟩ := Kd.at_int HR2.out (ji5) p446 q446; cases e446; replace hx446_0 := (HB.out.cell (World.block_lt_of_cell? w _ hx446_0)).trans hx446_0; replace p446 := eq_true p446; replace q446 := eq_true q446))
 go_loopg [8, 9] k (fun kq v8 v9 w' => ∃ (x8_1 : List Int) (x9_1 : List Int), Aq (spec_l03Left.l0 kq l2 x8_1 x9_1 (rd l2 (ji5)) a0_0 a0_1 = some (r1, r2)) ∧ Aq (kq ≤ k) ∧ Aq (Kd.R (Kd.int .i64) 2 w' w.heap.size (fun k_ => some k_ ≠ (v9 : Value).ownBlock) v8 x8_1) ∧ Aq (Kd.R (Kd.int .i64) 2 w' w.heap.size (fun k_ => some k_ ≠ (v8 : Value).ownBlock) v9 x9_1) ∧ Aq (w'.heap[gb439]? = some (.cells #[.int .i64 a0_0, .int .i64 a0_1] 27 (0, 0))) ∧ Aq (Below w.heap.size w w'))
 case atStart => exact ⟨(y440), (t443), H', ⟨Nat.le_refl _⟩, ⟨by (with_reducible repeat (first | apply Kd.RqA | apply Kd.RqN | apply Kd.RqD)); exact Kd.R_mono HO442.out (fun _ hk => hk.2)⟩, ⟨by (with_reducible repeat (first | apply Kd.RqA | apply Kd.RqN | apply Kd.RqD)); exact Kd.R_mono HO445.out (fun _ hk => hk.2)⟩, ⟨tG BK439.out⟩, ⟨tB⟩⟩
 clear H'
 try clear c1
 try clear c2
 try clear c6
 try clear c6b0
 try clear c7
 try clear c7b0
 try clear hx446_0
 try clear p446
 try clear q446
 obtain ⟨x8_1, x9_1, HA, HK1, HO_8, HO_9, BK439, HB⟩ := hrel
 cases gk with
 | zero => exact absurd HA.out (by simp [spec_l03Left.l0])
 | succ k1 =>
  have H := HA.out
  clear HA
  simp only [spec_l03Left.l0] at H
  by_cases c12 : (x9_1.length : Int) ≥ (l2.length : Int)
  rotate_left
  ·rw [if_neg c12] at H
   have c12b0 := decide_eq_false c12
   have c12b1 : decide (l2.length ≤ x9_1.length) = false := decide_eq_false (fun h => c12 (Int.ofNat_le.mpr h))
   clear c12
   simp only [Option.some.injEq, Prod.mk.injEq] at H
   obtain ⟨rfl, rfl⟩ := H
   obtain ⟨Ao36, co36, eo36⟩ := Kd.R_slice HO_9.out
   subst eo36
   go_wp2
   go_ret2
   exact ⟨_, _, by first | rfl | (simp [errW_none, errW_some] <;> rfl) | (simp only [← hji5]; first | rfl | (simp [errW_none, errW_some] <;> rfl)) | (simp [*, errW_none, errW_some] <;> rfl), tR HO_8.out, tR HO_9.out, tB⟩
  rw [if_pos c12] at H
  have c12b0 := decide_eq_true c12
  have c12b1 : decide (l2.length ≤ x9_1.length) = true := decide_eq_true (Int.ofNat_le.mp c12)
  clear c12
  obtain ⟨ji13, hji13⟩ : ∃ j_ : Int, (wrap64 ((x9_1.length : Int) - 1)) = j_ := ⟨_, rfl⟩
  first | rw [hji13] at H | simp only [hji13] at H | skip
  have hji13w : (IntKind.i64.wrap ((x9_1.length : Int) - 1)) = ji13 := (i64_w _).trans hji13
  by_cases c14 : 0 ≤ (ji13)
  rotate_left
  ·rw [if_neg c14] at H
   exact absurd H (by simp)
  rw [if_pos c14] at H
  have c14b0 := decide_eq_true c14
  clear c14
  by_cases c15 : (ji13) < (x9_1.length : Int)
  rotate_left
  ·rw [if_neg c15] at H
   exact absurd H (by simp)
  rw [if_pos c15] at H
  have c15b0 := decide_eq_true c15
  clear c15
  obtain ⟨t448, A16, H⟩ := qBd H
  obtain ⟨t449, A17, H⟩ := qBd H
  obtain ⟨t450, A18, H⟩ := qBd H
  obtain ⟨t451, A19, H⟩ := qBd H
  obtain ⟨t454, A20, H⟩ := qBd H
  obtain ⟨t457, A21, H⟩ := qBd H
  obtain ⟨t460, A22, H⟩ := qBd H
  replace H' := Aq.mk H
  clear H
  obtain ⟨Ao23, co23, eo23⟩ := Kd.R_slice HO_9.out
  subst eo23
  try go_wp2
  have n0_ := Aq.mk (Kd.RqD HO_8.out)
  have n1_ := Aq.mk (Kd.RqD HO_9.out)
  have n2_ := Aq.mk (kQD BK439.out)
  have n3_ := Aq.mk (bQ1 HB.out)
  clear HO_8
  clear HO_9
  clear BK439
  clear HB
  have HO_8 := n0_
  have HO_9 := n1_
  have BK439 := n2_
  have HB := n3_
  clear n0_ n1_ n2_ n3_
  have p447 : 0 ≤ ((ji13) : Int) := of_decide_eq_true tA
  have q447 : (ji13) < (x9_1.length : Int) := of_decide_eq_true tA
  obtain ⟨ad447, e447, hx447_0⟩ := Kd.at_int (Kd.R_reads' HO_9.out).2.2 (ji13) p447 q447
  cases e447
  replace p447 := eq_true p447
  replace q447 := eq_true q447
  refine start_ (n := 17) (S := fun w' => w'.cell? ⟨gb439, 0, none⟩ = some (.int .i64 a0_0) ∧ w'.cell? ⟨gb439, 1, none⟩ = some (.int .i64 a0_1) ∧ w'.cell? (ad447.add ((ji13)).toNat) = some (.int .i64 (rd x9_1 (ji13)))) (ds := []) #[false, false, false, false, false, false, false, false, false, false, false, false, false, false, false, false, false] (by kernel_rfl) rfl rfl ⟨(kQC BK439.out 0).trans rfl, (kQC BK439.out 1).trans rfl, hx447_0⟩ (fun hHeld => ?_); refine with_tabW spec_l03Left.tab6 spec_l03Left.bits6 (fun HT_ HW_ => ?_)
  generalize wr.drew = w24 at HO_8 HO_9 BK439 HB hx447_0 hHeld ⊢
  refine tP0 2 35 (bm 17 4) ?_
  refine tP0 3 36 (bm 17 12) ?_
  refine tP0 4 37 (bm 17 28) ?_
  refine tP0 5 38 (bm 17 60) ?_
  refine tP0 6 39 (bm 17 124) ?_
  refine tP0 9 42 (bm 17 636) ?_
  refine tP0 12 45 (bm 17 4732) ?_
  refine tP0 13 46 (bm 17 12924) ?_
  refine tP0 14 47 (bm 17 29308) ?_
  refine tT3 0 33 (bm 17 29309) ?_
  refine tT3 1 34 (bm 17 29311) ?_
  refine tT3 7 40 (bm 17 29439) ?_
  refine tT3 8 41 (bm 17 29695) ?_
  refine one_ (i := 10) (N := some 43) (bm 17 30719) rfl rfl (one_of HT_.out (by kernel_rfl)) (by decide) (fun K hK => ?_)
  refine goes_ Try.func62 (by kernel_rfl) rfl #[.agg #[.int .i64 a0_0, .int .i64 a0_1], .int .i64 (rd l2 (ji5))] (by rfl) rfl rfl (by (try simp only [List.map_toArray, List.map_cons, List.map_nil]); first | done | (simp only [hji5]; rfl) | rfl | (simp only [List.length_drop, List.length_take]; rfl)) ?_
  with_reducible refine (spec_l01Inverse.calls k1 a0_0 a0_1 (rd l2 (ji5)) t448 _ A16.out).mono ?_
  rintro e w25 ⟨rfl, hb⟩
  have HS2_ := (hb.cell (World.block_lt_of_cell? _ _ (hHeld.2.2))).trans (hHeld.2.2)
  refine ⟨_, rfl, ?_⟩
  have n0_ := Aq.mk (Kd.R_below (tR HO_8.out) hb)
  have n1_ := Aq.mk (Kd.R_below (tR HO_9.out) hb)
  have n2_ := Aq.mk (tQ BK439.out hb)
  have n3_ := Aq.mk (bQT tB hb)
  clear HO_8
  clear HO_9
  clear BK439
  clear HB
  have HO_8 := n0_
  have HO_9 := n1_
  have BK439 := n2_
  have HB := n3_
  clear n0_ n1_ n2_ n3_
  (try clear hb)
  (try clear hb2)
  (try clear hk)
  (try clear hi)
  refine hK.out _ _ ⟨(kQC BK439.out 0).trans rfl, (kQC BK439.out 1).trans rfl, HS2_⟩ (fun hHeld => ?_)
  clear hK K
  refine tN 43 ?_
  refine one_ (i := 11) (N := some 44) (bm 17 32767) rfl rfl (one_of HT_.out (by kernel_rfl)) (by decide) (fun K hK => ?_)
  refine goes_ Try.func61 (by kernel_rfl) rfl #[.agg #[.int .i64 a0_0, .int .i64 a0_1], .int .i64 (rd x9_1 (ji13)), .int .i64 t448] (by rfl) rfl rfl (by (try simp only [List.map_toArray, List.map_cons, List.map_nil]); first | done | (simp only [hji13]; rfl) | rfl | (simp only [List.length_drop, List.length_take]; rfl)) ?_
  with_reducible refine (spec_l01Mul.calls k1 a0_0 a0_1 (rd x9_1 (ji13)) t448 t449 _ A17.out).mono ?_
  rintro e w26 ⟨rfl, hb⟩
  have HS2_ := (hb.cell (World.block_lt_of_cell? _ _ (hHeld.2.2))).trans (hHeld.2.2)
  refine ⟨_, rfl, ?_⟩
  have n0_ := Aq.mk (Kd.R_below (tR HO_8.out) hb)
  have n1_ := Aq.mk (Kd.R_below (tR HO_9.out) hb)
  have n2_ := Aq.mk (tQ BK439.out hb)
  have n3_ := Aq.mk (bQT tB hb)
  clear HO_8
  clear HO_9
  clear BK439
  clear HB
  have HO_8 := n0_
  have HO_9 := n1_
  have BK439 := n2_
  have HB := n3_
  clear n0_ n1_ n2_ n3_
  (try clear hb)
  (try clear hb2)
  (try clear hk)
  (try clear hi)
  refine hK.out _ _ ⟨(kQC BK439.out 0).trans rfl, (kQC BK439.out 1).trans rfl, HS2_⟩ (fun hHeld => ?_)
  clear hK K
  refine tN 44 ?_
  refine one_ (i := 15) (N := some 48) (bm 17 65535) rfl rfl (one_of HT_.out (by kernel_rfl)) (by decide) (fun K hK => ?_)
  refine goes_ Try.func68 (by kernel_rfl) rfl #[.agg #[.int .i64 a0_0, .int .i64 a0_1], .int .i64 t449, .int .i64 (wrap64 ((l2.length : Int) - 1))] (by rfl) rfl rfl (by (try simp only [List.map_toArray, List.map_cons, List.map_nil]); first | done | rfl | (simp only [hji5]; rfl) | (simp only [List.length_drop, List.length_take]; rfl)) ?_
  with_reducible refine (spec_l03Root.calls k1 a0_0 a0_1 t449 (wrap64 ((l2.length : Int) - 1)) t450 _ A18.out).mono ?_
  rintro e w27 ⟨rfl, hb⟩
  have HS2_ := (hb.cell (World.block_lt_of_cell? _ _ (hHeld.2.2))).trans (hHeld.2.2)
  refine ⟨_, rfl, ?_⟩
  have n0_ := Aq.mk (Kd.R_below (tR HO_8.out) hb)
  have n1_ := Aq.mk (Kd.R_below (tR HO_9.out) hb)
  have n2_ := Aq.mk (tQ BK439.out hb)
  have n3_ := Aq.mk (bQT tB hb)
  clear HO_8
  clear HO_9
  clear BK439
  clear HB
  have HO_8 := n0_
  have HO_9 := n1_
  have BK439 := n2_
  have HB := n3_
  clear n0_ n1_ n2_ n3_
  (try clear hb)
  (try clear hb2)
  (try clear hk)
  (try clear hi)
  refine hK.out _ _ ⟨(kQC BK439.out 0).trans rfl, (kQC BK439.out 1).trans rfl, HS2_⟩ (fun hHeld => ?_)
  clear hK K
  refine tN 48 ?_
  refine tP0 16 12 (bm 17 131071) ?_
  refine done_ (done_of HT_.out (by kernel_rfl)) ?_
  try go_wp2_with (first | ((with_reducible refine gQc (f := 64) rfl ?_); refine goesL_ (some 51) rfl rfl Try.func64 (by kernel_rfl) rfl #[.int .i64 t450, .int .i64 (wrap64 ((x9_1.length : Int) - (l2.length : Int)))] rfl tL ?_; (with_reducible refine (spec_l03Term.calls t450 (wrap64 ((x9_1.length : Int) - (l2.length : Int))) t451 _ A19.out).mono ?_); rintro e w28 ⟨v452, rfl, ho0, hb⟩; refine ⟨_, rfl, ?_⟩; refine qM5 (Kd.R_elder' (tR HO_8.out) (Kd.R_base ho0) hb) (Kd.R_elder' (tR HO_9.out) (Kd.R_base ho0) hb) (Kd.R_lower (Kd.R_new' (Kd.R_new' ho0 (Kd.R_lt (tR HO_8.out))) (Kd.R_lt (tR HO_9.out))) (bQZ tB)) (tQ BK439.out hb) (bQT tB hb) ?_; clear HO_8 HO_9 BK439 HB; intro HO_8 HO_9 HO453 BK439 HB; (try clear hb); (try clear hb2); (try clear hk); (try clear hi); (try clear ho0); obtain ⟨Ao29, co29, eo29⟩ := Kd.R_slice HO_8.out; subst eo29; obtain ⟨Ao30, co30, eo30⟩ := Kd.R_slice HO453.out; subst eo30) | ((with_reducible refine gQc (f := 65) rfl ?_); refine goesL_ (some 54) rfl rfl Try.func65 (by kernel_rfl) rfl #[.slice Ao29 x8_1.length co29, .slice Ao30 t451.length co30] rfl tL ?_; (with_reducible refine (spec_l03Sum.calls k1 _ _ x8_1 _ _ t451 t454 _ ?s1 ?s2 ?s3 ?s4 A20.out).mono ?_); (case s1 => exact tC ((Kd.R_reads' HO_8.out).2.2)); (case s2 => exact (Kd.R_reads' HO_8.out).2.1); (case s3 => exact tC ((Kd.R_reads' HO453.out).2.2)); (case s4 => exact (Kd.R_reads' HO453.out).2.1); rintro e w31 ⟨v455, rfl, ho0, hb⟩; refine ⟨_, rfl, ?_⟩; refine qM6 (Kd.R_elder' (tR HO_8.out) (Kd.R_base ho0) hb) (Kd.R_elder' (tR HO_9.out) (Kd.R_base ho0) hb) (Kd.R_elder' (tR HO453.out) (Kd.R_base ho0) hb) (Kd.R_lower (Kd.R_new' (Kd.R_new' (Kd.R_new' ho0 (Kd.R_lt (tR HO_8.out))) (Kd.R_lt (tR HO_9.out))) (Kd.R_lt (tR HO453.out))) (bQZ tB)) (tQ BK439.out hb) (bQT tB hb) ?_; clear HO_8 HO_9 HO453 BK439 HB; intro HO_8 HO_9 HO453 HO456 BK439 HB; (try clear hb); (try clear hb2); (try clear hk); (try clear hi); (try clear ho0); have hcz32_0 : w31.cell? ⟨gb439, 0, none⟩ = some (.int .i64 a0_0) := (kQC BK439.out 0).trans rfl; have hcz32_1 : w31.cell? ⟨gb439, 1, none⟩ = some (.int .i64 a0_1) := (kQC BK439.out 1).trans rfl; have hfz32_0 := kQF BK439.out 0; have hfz32_1 := kQF BK439.out 1) | ((with_reducible refine gQc (f := 66) rfl ?_); refine goesL_ (some 59) rfl rfl Try.func66 (by kernel_rfl) rfl #[.agg #[.int .i64 a0_0, .int .i64 a0_1], .slice (some ad446) l2.length c2, .slice Ao30 t451.length co30] rfl tL ?_; (with_reducible refine (spec_l03Compose.calls k1 a0_0 a0_1 _ _ l2 _ _ t451 t457 _ ?s1 ?s2 ?s3 ?s4 A21.out).mono ?_); (case s1 => exact tC ((Kd.C_below HR2.out HB.out))); (case s2 => exact HC2.out); (case s3 => exact tC ((Kd.R_reads' HO453.out).2.2)); (case s4 => exact (Kd.R_reads' HO453.out).2.1); rintro e w33 ⟨v458, rfl, ho0, hb⟩; refine ⟨_, rfl, ?_⟩; refine qM7 (Kd.R_elder' (tR HO_8.out) (Kd.R_base ho0) hb) (Kd.R_elder' (tR HO_9.out) (Kd.R_base ho0) hb) (Kd.R_elder' (tR HO453.out) (Kd.R_base ho0) hb) (Kd.R_elder' (tR HO456.out) (Kd.R_base ho0) hb) (Kd.R_lower (Kd.R_new' (Kd.R_new' (Kd.R_new' (Kd.R_new' ho0 (Kd.R_lt (tR HO_8.out))) (Kd.R_lt (tR HO_9.out))) (Kd.R_lt (tR HO453.out))) (Kd.R_lt (tR HO456.out))) (bQZ tB)) (tQ BK439.out hb) (bQT tB hb) ?_; clear HO_8 HO_9 HO453 HO456 BK439 HB; intro HO_8 HO_9 HO453 HO456 HO459 BK439 HB; (try clear hb); (try clear hb2); (try clear hk); (try clear hi); (try clear ho0); obtain ⟨Ao34, co34, eo34⟩ := Kd.R_slice HO459.out; subst eo34) | ((with_reducible refine gQc (f := 65) rfl ?_); refine goesL_ (some 60) rfl rfl Try.func65 (by kernel_rfl) rfl #[.slice (some ad447) x9_1.length co23, .slice Ao34 t457.length co34] rfl tL ?_; (with_reducible refine (spec_l03Sum.calls k1 _ _ x9_1 _ _ t457 t460 _ ?s1 ?s2 ?s3 ?s4 A22.out).mono ?_); (case s1 => exact tC ((Kd.R_reads' HO_9.out).2.2)); (case s2 => exact (Kd.R_reads' HO_9.out).2.1); (case s3 => exact tC ((Kd.R_reads' HO459.out).2.2)); (case s4 => exact (Kd.R_reads' HO459.out).2.1); rintro e w35 ⟨v461, rfl, ho0, hb⟩; refine ⟨_, rfl, ?_⟩; refine qM8 (Kd.R_elder' (tR HO_8.out) (Kd.R_base ho0) hb) (Kd.R_elder' (tR HO_9.out) (Kd.R_base ho0) hb) (Kd.R_elder' (tR HO453.out) (Kd.R_base ho0) hb) (Kd.R_elder' (tR HO456.out) (Kd.R_base ho0) hb) (Kd.R_elder' (tR HO459.out) (Kd.R_base ho0) hb) (Kd.R_lower (Kd.R_new' (Kd.R_new' (Kd.R_new' (Kd.R_new' (Kd.R_new' ho0 (Kd.R_lt (tR HO_8.out))) (Kd.R_lt (tR HO_9.out))) (Kd.R_lt (tR HO453.out))) (Kd.R_lt (tR HO456.out))) (Kd.R_lt (tR HO459.out))) (bQZ tB)) (tQ BK439.out hb) (bQT tB hb) ?_; clear HO_8 HO_9 HO453 HO456 HO459 BK439 HB; intro HO_8 HO_9 HO453 HO456 HO459 HO462 BK439 HB; (try clear hb); (try clear hb2); (try clear hk); (try clear hi); (try clear ho0)))
  go_roundg k1
  case measure => have := HK1.out; omega
  case rel => exact ⟨(t454), (t460), H', ⟨by have := HK1.out; omega⟩, ⟨by (with_reducible repeat (first | apply Kd.RqA | apply Kd.RqN | apply Kd.RqD)); exact Kd.R_mono HO456.out (fun _ hk => hk.2)⟩, ⟨by (with_reducible repeat (first | apply Kd.RqA | apply Kd.RqN | apply Kd.RqD)); exact Kd.R_mono HO462.out (fun _ hk => hk.1.2)⟩, ⟨tG BK439.out⟩, ⟨tB⟩⟩
end Go.Proofs.Ytkhjoomjjdgkjaa.P
