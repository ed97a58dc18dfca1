/- Functions of the program and what they tell, as the printing program wrote it. -/
import Derived.Test.YtkhjoomjjdgkjaaPx0
import Derived.Test.YtkhjoomjjdgkjaaPx2
import Derived.Test.YtkhjoomjjdgkjaaPx10
import Derived.Test.YtkhjoomjjdgkjaaPx11
import Derived.Test.YtkhjoomjjdgkjaaPx15
namespace Go.Proofs.Ytkhjoomjjdgkjaa.P
open Go.Shelf Go.RowKit Go.Proofs.YtkhjoomjjdgkjaaW.PrintWords Go.Proofs.YtkhjoomjjdgkjaaW.PrintLast Go.Proofs.YtkhjoomjjdgkjaaW.PrintMore
attribute [local go_sem] max2_int min2_int max_two min_two max_three min_three max_four min_four
set_option linter.unusedVariables false
set_option linter.unusedSimpArgs false
set_option maxHeartbeats 8000000
set_option maxRecDepth 100000
def spec_l03Monic.f (k : Nat) (a0_0 : Int) (a0_1 : Int) (l1 : List Int) : Option (List Int) := if 0 ≤ (wrap64 ((l1.length : Int) - 1)) then (if (wrap64 ((l1.length : Int) - 1)) < (l1.length : Int) then ((spec_l01Inverse.f k a0_0 a0_1 (rd l1 (wrap64 ((l1.length : Int) - 1)))).bind fun t699 => ((spec_l03Compose.f k a0_0 a0_1 (([t699] : List Int)) l1).bind fun t703 => (some t703))) else (none)) else (none)
theorem spec_l03Monic.mono : ∀ a0 a1 a2 k, LeO (spec_l03Monic.f k a0 a1 a2) (spec_l03Monic.f (k + 1) a0 a1 a2) := by
 intro a0 a1 a2 k
 unfold spec_l03Monic.f
 repeat' first
  | (with_reducible first | apply spec_l01Inverse.mono | apply spec_l03Compose.mono | exact LeO.refl _ | exact LeO.none _ | refine LeO.ite ?_ ?_ | refine LeO.bind ?_ (fun _ => ?_))
  | exact LeO.none _
  | refine LeO.ite ?_ ?_
  | refine LeO.bind ?_ (fun _ => ?_)
def spec_l03Monic.T1 : Bool × List (List Nat × List Nat) := (true, [([], []), ([], []), ([], []), ([], []), ([3], [3]), ([4], [4]), ([2, 5], [2, 5]), ([6], [6]), ([1, 7], [1, 7]), ([8], [8]), ([], []), ([0, 9, 10, 8], [0, 9, 10]), ([11, 11, 0, 1, 2, 3, 4, 5, 6, 7, 8, 9, 10, 11], [11])])
def spec_l03Monic.B1 : List Nat := [0, 0, 0, 0, 8, 24, 60, 124, 254, 510, 0, 2047, 4095]
theorem spec_l03Monic.tab1 : rtab .any (opsOf Try.f83 1) = spec_l03Monic.T1 := by kernel_rfl
theorem spec_l03Monic.bits1 : waitsOk spec_l03Monic.T1.2 spec_l03Monic.B1 = true := by kernel_rfl
theorem spec_l03Monic.calls (k : Nat) (a0_0 : Int) (a0_1 : Int) (A1 : Option Addr) (c1 : Nat) (l1 : List Int) (r : List Int) (w : World) (hr1 : Kd.C (Kd.int .i64) w A1 l1.length l1) (hc1 : l1.length ≤ c1) (h : spec_l03Monic.f k a0_0 a0_1 l1 = some r) :
 Calls Try.prog 83 #[.agg #[.int .i64 a0_0, .int .i64 a0_1], .slice A1 l1.length c1] w fun e w' => ∃ v0_ : Value, e = .returned (v0_) ∧ Kd.R (Kd.int .i64) 2 w' w.heap.size (fun _ => True) v0_ r ∧ Below w.heap.size w w' := by
 have hu27 := Try.underlying27
 have HR1 := Aq.mk hr1
 have HC1 := Aq.mk hc1
 clear hr1 hc1
 have HB := Aq.mk (Below.refl w.heap.size w)
 have H : (if 0 ≤ (wrap64 ((l1.length : Int) - 1)) then (if (wrap64 ((l1.length : Int) - 1)) < (l1.length : Int) then ((spec_l01Inverse.f k a0_0 a0_1 (rd l1 (wrap64 ((l1.length : Int) - 1)))).bind fun t699 => ((spec_l03Compose.f k a0_0 a0_1 (([t699] : List Int)) l1).bind fun t703 => (some t703))) else (none)) else (none)) = some r := h
 clear h
 obtain ⟨ji3, hji3⟩ : ∃ j_ : Int, (wrap64 ((l1.length : Int) - 1)) = j_ := ⟨_, rfl⟩
 first | rw [hji3] at H | simp only [hji3] at H | skip
 have hji3w : (IntKind.i64.wrap ((l1.length : Int) - 1)) = ji3 := (i64_w _).trans hji3
 by_cases c4 : 0 ≤ (ji3)
 rotate_left
 ·rw [if_neg c4] at H
  exact absurd H (by simp)
 rw [if_pos c4] at H
 have c4b0 := decide_eq_true c4
 clear c4
 by_cases c5 : (ji3) < (l1.length : Int)
 rotate_left
 ·rw [if_neg c5] at H
  exact absurd H (by simp)
 rw [if_pos c5] at H
 have c5b0 := decide_eq_true c5
 clear c5
 obtain ⟨t699, A6, H⟩ := qBd H
 obtain ⟨y700, hy700⟩ : ∃ y_ : List Int, y_ = (([t699] : List Int)) := ⟨_, rfl⟩
 replace H : ((spec_l03Compose.f k a0_0 a0_1 y700 l1).bind fun t703 => (some t703)) = some r := by first | (rw [hy700]; with_reducible exact H) | (have H2_ := (Option.bind_some _ _).symm.trans H; rw [hy700]; with_reducible exact H2_) | (have H2_ := (Option.bind_some _ _).symm.trans H; with_reducible exact H2_) | with_reducible exact H | (rw [hy700]; exact H) | exact H
 have Ny700 := Aq.mk hy700
 clear hy700
 obtain ⟨t703, A7, H⟩ := qBd H
 obtain rfl := Option.some.inj H
 go_enter Try.func83, Try.ntmps83
 try go_wp2_with (first | ((with_reducible refine gQd (N := 2) rfl ?_); refine xQe ?hg (N := 2) ?hd (cs := #[.int .i64 a0_0, .int .i64 a0_1]) (t := 27) ?hr ?_; (case hd => rfl); (case hg => rfl); (case hr => exact tH); intro gb697 hg w8 hbox hb; refine qM4 (bQT tB hb) hbox (tZ w hg) (tZ w hg) ?_; clear HB; intro HB BK697 GW697 GE697; clear hb hbox hg))
 have n0_ := Aq.mk (kQD BK697.out)
 have n1_ := Aq.mk (bQ1 HB.out)
 clear BK697
 clear HB
 have BK697 := n0_
 have HB := n1_
 clear n0_ n1_
 have p698 : 0 ≤ ((ji3) : Int) := of_decide_eq_true tA
 have q698 : (ji3) < (l1.length : Int) := of_decide_eq_true tA
 obtain ⟨ad698, e698, hx698_0⟩ := Kd.at_int HR1.out (ji3) p698 q698
 have hw698_0 := hx698_0
 cases e698
 replace hx698_0 := (HB.out.cell (World.block_lt_of_cell? w _ hx698_0)).trans hx698_0
 replace p698 := eq_true p698
 replace q698 := eq_true q698
 refine start_ (n := 13) (S := fun w' => w'.cell? ⟨gb697, 0, none⟩ = some (.int .i64 a0_0) ∧ w'.cell? ⟨gb697, 1, none⟩ = some (.int .i64 a0_1) ∧ w'.cell? (ad698.add ((ji3)).toNat) = some (.int .i64 (rd l1 (ji3)))) (ds := []) #[false, false, false, false, false, false, false, false, false, false, false, false, false] (by kernel_rfl) rfl rfl ⟨(kQC BK697.out 0).trans rfl, (kQC BK697.out 1).trans rfl, (tcw tB hw698_0)⟩ (fun hHeld => ?_); refine with_tabW spec_l03Monic.tab1 spec_l03Monic.bits1 (fun HT_ HW_ => ?_)
 generalize w8.drew = w9 at BK697 HB hx698_0 hHeld ⊢
 refine tP0 2 7 (bm 13 4) ?_
 refine tP0 3 8 (bm 13 12) ?_
 refine tP0 4 9 (bm 13 28) ?_
 refine tP0 5 10 (bm 13 60) ?_
 refine tP0 6 11 (bm 13 124) ?_
 refine tP0 10 15 (bm 13 1148) ?_
 refine tT3 0 5 (bm 13 1149) ?_
 refine tT3 1 6 (bm 13 1151) ?_
 refine tT3 7 12 (bm 13 1279) ?_
 refine one_ (i := 8) (N := some 13) (bm 13 1535) rfl rfl (one_of HT_.out (by kernel_rfl)) (by decide) (fun K hK => ?_)
 refine goes_ Try.func62 (by kernel_rfl) rfl #[.agg #[.int .i64 a0_0, .int .i64 a0_1], .int .i64 (rd l1 (ji3))] (by rfl) rfl rfl (by (try simp only [List.map_toArray, List.map_cons, List.map_nil]); first | done | (simp only [hji3]; rfl) | rfl | (simp only [List.length_drop, List.length_take]; rfl)) ?_
 with_reducible refine (spec_l01Inverse.calls k a0_0 a0_1 (rd l1 (ji3)) t699 _ A6.out).mono ?_
 rintro e w10 ⟨rfl, hb⟩
 refine ⟨_, rfl, ?_⟩
 have n0_ := Aq.mk (tQ BK697.out hb)
 have n1_ := Aq.mk (bQT tB hb)
 clear BK697
 clear HB
 have BK697 := n0_
 have HB := n1_
 clear n0_ n1_
 (try clear hb)
 (try clear hb2)
 (try clear hk)
 (try clear hi)
 refine hK.out _ _ ⟨(kQC BK697.out 0).trans rfl, (kQC BK697.out 1).trans rfl, (tcw tB hw698_0)⟩ (fun hHeld => ?_)
 clear hK K
 refine tN 13 ?_
 refine one_ (i := 9) (N := some 14) (bm 13 2047) rfl rfl (one_of HT_.out (by kernel_rfl)) (by decide) (fun K hK => ?_)
 refine Kd.R_lit_step (Kd.int .i64) _ 2 ?hg (N := 14) ?hd (xs := ([t699] : List Int)) (inner := [.int .i64 t699]) (ok := fun _ => True) (okp := fun _ => True) ?hr ?hp (fun _ hk => hk) trivial (Below.refl _ _) (Nat.le_refl _) (by simp) ?_; (case hd => rfl); (case hg => rfl); (case hr => exact tH); (case hp => exact (Reps.one (show Kd.M (Kd.int .i64) _ _ _ t699 [.int .i64 t699] from rfl) (Reps.none _ _)))
 intro v701 w11 ho12 hb hg_ hnew_
 clear hg_ hnew_
 (first | rw [← Ny700.out] at ho12 | (simp only [Int.reduceToNat] at ho12; rw [← Ny700.out] at ho12))
 have n0_ := Aq.mk (Kd.R_lower ho12 (bQZ tB))
 have n1_ := Aq.mk (tQ BK697.out hb)
 have n2_ := Aq.mk (bQT tB hb)
 clear BK697
 clear HB
 have HO702 := n0_
 have BK697 := n1_
 have HB := n2_
 clear n0_ n1_ n2_
 clear hb ho12
 obtain ⟨Ao13, co13, eo13⟩ := Kd.R_slice HO702.out
 (first | subst eo13 | (injection eo13 with f1_ f2_ f3_; have f4_ := f1_.symm; have f5_ := f3_.symm; clear f1_ f2_ f3_; subst f4_; subst f5_))
 refine hK.out _ _ ⟨(kQC BK697.out 0).trans rfl, (kQC BK697.out 1).trans rfl, (tcw tB hw698_0)⟩ (fun hHeld => ?_)
 clear hK K
 refine tN 14 ?_
 refine one_ (i := 11) (N := some 16) (bm 13 4095) rfl rfl (one_of HT_.out (by kernel_rfl)) (by decide) (fun K hK => ?_)
 refine goes_ Try.func66 (by kernel_rfl) rfl #[.agg #[.int .i64 a0_0, .int .i64 a0_1], .slice Ao13 y700.length co13, .slice (some ad698) l1.length c1] (by rfl) rfl rfl tL ?_
 with_reducible refine (spec_l03Compose.calls k a0_0 a0_1 _ _ y700 _ _ l1 t703 _ ?s1 ?s2 ?s3 ?s4 A7.out).mono ?_
 (case s1 => exact tC ((Kd.R_reads' HO702.out).2.2))
 (case s2 => exact (Kd.R_reads' HO702.out).2.1)
 (case s3 => exact tC ((Kd.C_below HR1.out HB.out)))
 (case s4 => exact HC1.out)
 rintro e w14 ⟨v704, rfl, ho0, hb⟩
 refine ⟨_, rfl, ?_⟩
 have n0_ := Aq.mk (Kd.R_elder' (tR HO702.out) (Kd.R_base ho0) hb)
 have n1_ := Aq.mk (Kd.R_lower (Kd.R_new' ho0 (Kd.R_lt (tR HO702.out))) (bQZ tB))
 have n2_ := Aq.mk (tQ BK697.out hb)
 have n3_ := Aq.mk (bQT tB hb)
 clear HO702
 clear BK697
 clear HB
 have HO702 := n0_
 have HO705 := n1_
 have BK697 := n2_
 have HB := n3_
 clear n0_ n1_ n2_ n3_
 (try clear hb)
 (try clear hb2)
 (try clear hk)
 (try clear hi)
 (try clear ho0)
 refine hK.out _ _ ⟨(kQC BK697.out 0).trans rfl, (kQC BK697.out 1).trans rfl, (tcw tB hw698_0)⟩ (fun hHeld => ?_)
 clear hK K
 refine tN 16 ?_
 refine tP0 12 4 (bm 13 8191) ?_
 refine done_ (done_of HT_.out (by kernel_rfl)) ?_
 try go_wp2
 go_ret
 exact ⟨_, by first | rfl | (simp [errW_none, errW_some] <;> rfl) | (simp only [← hji3]; first | rfl | (simp [errW_none, errW_some] <;> rfl)) | (simp [*, errW_none, errW_some] <;> rfl), by (with_reducible repeat (first | apply Kd.RqA | apply Kd.RqN | apply Kd.RqD)); exact Kd.R_mono HO705.out (fun _ hk => trivial), tB⟩
def spec_l03Greatest.l0 : Nat → List Int → List Int → Int → Int → Option (List Int)
  | 0, _, _, _, _ => none
  | k + 1, x1, x2, x707000, x707001 => if (x2.length : Int) > 0 then ((spec_l03Right.f k x707000 x707001 x1 x2).bind fun bt707 => (spec_l03Greatest.l0 k x2 bt707.2 x707000 x707001)) else ((spec_l03Monic.f k x707000 x707001 x1).bind fun t713 => (some t713))
def spec_l03Greatest.f (k : Nat) (a0_0 : Int) (a0_1 : Int) (l1 : List Int) (l2 : List Int) : Option (List Int) := spec_l03Greatest.l0 k l1 l2 a0_0 a0_1
theorem spec_l03Greatest.mono_l : ∀ k, (∀ y0 y1 y2 y3, LeO (spec_l03Greatest.l0 k y0 y1 y2 y3) (spec_l03Greatest.l0 (k + 1) y0 y1 y2 y3))
 | 0 => fun _ _ _ _ r h => by simp [spec_l03Greatest.l0] at h
 | k + 1 => by
  have ih0 := spec_l03Greatest.mono_l k
  ·intro y0 y1 y2 y3
   unfold spec_l03Greatest.l0
   repeat' first
   | (with_reducible first | apply ih0 | apply spec_l03Monic.mono | apply spec_l03Right.mono | exact LeO.refl _ | exact LeO.none _ | refine LeO.ite ?_ ?_ | refine LeO.bind ?_ (fun _ => ?_))
   | exact LeO.none _
   | refine LeO.ite ?_ ?_
   | refine LeO.bind ?_ (fun _ => ?_)
theorem spec_l03Greatest.mono : ∀ a0 a1 a2 a3 k, LeO (spec_l03Greatest.f k a0 a1 a2 a3) (spec_l03Greatest.f (k + 1) a0 a1 a2 a3) := by
 intro a0 a1 a2 a3 k
 have ih0 := spec_l03Greatest.mono_l k
 unfold spec_l03Greatest.f
 repeat' first
  | (with_reducible first | apply ih0 | apply spec_l03Monic.mono | apply spec_l03Right.mono | exact LeO.refl _ | exact LeO.none _ | refine LeO.ite ?_ ?_ | refine LeO.bind ?_ (fun _ => ?_))
  | exact LeO.none _
  | refine LeO.ite ?_ ?_
  | refine LeO.bind ?_ (fun _ => ?_)
theorem spec_l03Greatest.calls (k : Nat) (a0_0 : Int) (a0_1 : Int) (P1_ : Nat → Prop) (A1 : Option Addr) (c1 : Nat) (l1 : List Int) (P2_ : Nat → Prop) (A2 : Option Addr) (c2 : Nat) (l2 : List Int) (r : List Int) (w : World) (hs1 : Kd.V (Kd.int .i64) 2 w w.heap.size (fun k_ => P1_ k_) (.slice A1 l1.length c1) l1) (hs2 : Kd.V (Kd.int .i64) 2 w w.heap.size (fun k_ => P2_ k_) (.slice A2 l2.length c2) l2) (h : spec_l03Greatest.f k a0_0 a0_1 l1 l2 = some r) :
 Calls Try.prog 45 #[.agg #[.int .i64 a0_0, .int .i64 a0_1], .slice A1 l1.length c1, .slice A2 l2.length c2] w fun e w' => ∃ v0_ : Value, e = .returned (v0_) ∧ Kd.R (Kd.int .i64) 2 w' w.heap.size (fun k_ => (w.heap.size ≤ k_)) v0_ r ∧ Below w.heap.size w w' := by
 have hu27 := Try.underlying27
 have HO1 := Aq.mk (show Kd.V (Kd.int .i64) 2 w w.heap.size (fun k_ => ((P1_ k_ ∨ P2_ k_) ∨ w.heap.size ≤ k_)) (.slice A1 l1.length c1) l1 from Kd.V_mono hs1 (fun k_ hk => .inl (.inl hk)))
 have HO2 := Aq.mk (show Kd.V (Kd.int .i64) 2 w w.heap.size (fun k_ => ((P1_ k_ ∨ P2_ k_) ∨ w.heap.size ≤ k_)) (.slice A2 l2.length c2) l2 from Kd.V_mono hs2 (fun k_ hk => .inl (.inr hk)))
 have HB := Aq.mk (Below.refl w.heap.size w)
 have H : (spec_l03Greatest.l0 k l1 l2 a0_0 a0_1) = some r := h
 clear h
 replace H' := Aq.mk H
 clear H
 go_enter Try.func45, Try.ntmps45
 go_wp2_with (first | ((with_reducible refine gQd (N := 3) rfl ?_); refine xQe ?hg (N := 3) ?hd (cs := #[.int .i64 a0_0, .int .i64 a0_1]) (t := 27) ?hr ?_; (case hd => rfl); (case hg => rfl); (case hr => exact tH); intro gb706 hg w4 hbox hb; refine qM6 (Kd.V_below (Kd.V_elderB (by (with_reducible repeat (first | apply Kd.V_alloc | apply Kd.V_drewN | apply Kd.V_drew)); exact HO1.out) gb706 (Nat.le_of_eq hg.symm)) hb) (Kd.V_below (Kd.V_elderB (by (with_reducible repeat (first | apply Kd.V_alloc | apply Kd.V_drewN | apply Kd.V_drew)); exact HO2.out) gb706 (Nat.le_of_eq hg.symm)) hb) (bQT tB hb) hbox (tZ w hg) (tZ w hg) ?_; clear HO1 HO2 HB; intro HO1 HO2 HB BK706 GW706 GE706; clear hb hbox hg))
 go_loopg [1, 2] k (fun kq v1 v2 w' => ∃ (x1_1 : List Int) (x2_1 : List Int), Aq (spec_l03Greatest.l0 kq x1_1 x2_1 a0_0 a0_1 = some r) ∧ Aq (kq ≤ k) ∧ Aq (Kd.V (Kd.int .i64) 2 w' w.heap.size (fun k_ => ((P1_ k_ ∨ P2_ k_) ∨ w.heap.size ≤ k_) ∧ k_ ≠ gb706) v1 x1_1) ∧ Aq (Kd.V (Kd.int .i64) 2 w' w.heap.size (fun k_ => ((P1_ k_ ∨ P2_ k_) ∨ w.heap.size ≤ k_) ∧ k_ ≠ gb706) v2 x2_1) ∧ Aq (w'.heap[gb706]? = some (.cells #[.int .i64 a0_0, .int .i64 a0_1] 27 (0, 0))) ∧ Aq (Below w.heap.size w w'))
 case atStart => exact ⟨(l1), (l2), H', ⟨Nat.le_refl _⟩, ⟨by (with_reducible repeat (first | apply Kd.V_alloc | apply Kd.V_drewN | apply Kd.V_drew)); exact HO1.out⟩, ⟨by (with_reducible repeat (first | apply Kd.V_alloc | apply Kd.V_drewN | apply Kd.V_drew)); exact HO2.out⟩, ⟨tG BK706.out⟩, ⟨tB⟩⟩
 clear H'
 try clear c1
 try clear c2
 obtain ⟨x1_1, x2_1, HA, HK1, HO_1, HO_2, BK706, HB⟩ := hrel
 cases gk with
 | zero => exact absurd HA.out (by simp [spec_l03Greatest.l0])
 | succ k1 =>
  have H := HA.out
  clear HA
  simp only [spec_l03Greatest.l0] at H
  by_cases c5 : (x2_1.length : Int) > 0
  rotate_left
  ·rw [if_neg c5] at H
   have c5b0 := decide_eq_false c5
   have c5b1 : decide (0 < x2_1.length) = false := decide_eq_false (by omega)
   clear c5
   obtain ⟨t713, A11, H⟩ := qBd H
   obtain rfl := Option.some.inj H
   obtain ⟨Ao12, co12, eo12⟩ := Kd.V_slice HO_2.out
   subst eo12
   have hcz13_0 : wr.cell? ⟨gb706, 0, none⟩ = some (.int .i64 a0_0) := (kQC BK706.out 0).trans rfl
   have hcz13_1 : wr.cell? ⟨gb706, 1, none⟩ = some (.int .i64 a0_1) := (kQC BK706.out 1).trans rfl
   have hfz13_0 := kQF BK706.out 0
   have hfz13_1 := kQF BK706.out 1
   obtain ⟨Ao14, co14, eo14⟩ := Kd.V_slice HO_1.out
   subst eo14
   go_wp2_with (first | ((with_reducible refine gQc (f := 83) rfl ?_); refine goesL_ (some 23) rfl rfl Try.func83 (by kernel_rfl) rfl #[.agg #[.int .i64 a0_0, .int .i64 a0_1], .slice Ao14 x1_1.length co14] rfl tL ?_; (with_reducible refine (spec_l03Monic.calls k1 a0_0 a0_1 _ _ x1_1 t713 _ ?s1 ?s2 A11.out).mono ?_); (case s1 => exact tC ((Kd.V_reads' HO_1.out).2.2)); (case s2 => exact (Kd.V_reads' HO_1.out).2.1); rintro e w15 ⟨v714, rfl, ho0, hb⟩; refine ⟨_, rfl, ?_⟩; refine qM5 (Kd.V_elder' (by (with_reducible repeat (first | apply Kd.V_alloc | apply Kd.V_drewN | apply Kd.V_drew)); exact HO_1.out) (Kd.R_base ho0) hb) (Kd.V_elder' (by (with_reducible repeat (first | apply Kd.V_alloc | apply Kd.V_drewN | apply Kd.V_drew)); exact HO_2.out) (Kd.R_base ho0) hb) (Kd.R_lower (Kd.R_newM (M := fun k_ => (w.heap.size ≤ k_)) ho0 (bQZ tB) (fun k_ h_ => h_)) (bQZ tB)) (tQ BK706.out hb) (bQT tB hb) ?_; clear HO_1 HO_2 BK706 HB; intro HO_1 HO_2 HO715 BK706 HB; (try clear hb); (try clear hb2); (try clear hk); (try clear hi); (try clear ho0)))
   go_ret
   exact ⟨_, tE, by (with_reducible repeat (first | apply Kd.RqA | apply Kd.RqN | apply Kd.RqD)); exact Kd.R_mono HO715.out (fun _ hk => hk.1), tB⟩
  rw [if_pos c5] at H
  have c5b0 := decide_eq_true c5
  have c5b1 : decide (0 < x2_1.length) = true := decide_eq_true (by omega)
  clear c5
  obtain ⟨⟨t707, t710⟩, A6, H⟩ := qBd H
  (try dsimp only at H)
  replace H' := Aq.mk H
  clear H
  obtain ⟨Ao7, co7, eo7⟩ := Kd.V_slice HO_2.out
  subst eo7
  have hcz8_0 : wr.cell? ⟨gb706, 0, none⟩ = some (.int .i64 a0_0) := (kQC BK706.out 0).trans rfl
  have hcz8_1 : wr.cell? ⟨gb706, 1, none⟩ = some (.int .i64 a0_1) := (kQC BK706.out 1).trans rfl
  have hfz8_0 := kQF BK706.out 0
  have hfz8_1 := kQF BK706.out 1
  obtain ⟨Ao9, co9, eo9⟩ := Kd.V_slice HO_1.out
  subst eo9
  go_wp2_with (first | ((with_reducible refine gQc (f := 33) rfl ?_); refine goesL_ (some 16) rfl rfl Try.func33 (by kernel_rfl) rfl #[.agg #[.int .i64 a0_0, .int .i64 a0_1], .slice Ao9 x1_1.length co9, .slice Ao7 x2_1.length co7] rfl tL ?_; (with_reducible refine (spec_l03Right.calls k1 a0_0 a0_1 _ _ x1_1 _ _ x2_1 t707 t710 _ ?s1 ?s2 ?s3 ?s4 A6.out).mono ?_); (case s1 => exact tC ((Kd.V_reads' HO_1.out).2.2)); (case s2 => exact (Kd.V_reads' HO_1.out).2.1); (case s3 => exact tC ((Kd.V_reads' HO_2.out).2.2)); (case s4 => exact (Kd.V_reads' HO_2.out).2.1); rintro e w10 ⟨v708, v711, rfl, ho0, ho1, hb⟩; refine ⟨_, rfl, ?_⟩; refine qM6 (Kd.V_mono (Kd.V_told (Kd.V_told (Kd.V_old (by (with_reducible repeat (first | apply Kd.V_alloc | apply Kd.V_drewN | apply Kd.V_drew)); exact HO_1.out) hb) (Kd.R_base ho0)) (Kd.R_base ho1)) (fun _ h_ => h_.1)) (Kd.V_mono (Kd.V_told (Kd.V_told (Kd.V_old (by (with_reducible repeat (first | apply Kd.V_alloc | apply Kd.V_drewN | apply Kd.V_drew)); exact HO_2.out) hb) (Kd.R_base ho0)) (Kd.R_base ho1)) (fun _ h_ => h_.1)) (Kd.R_lower (Kd.R_newM (M := fun k_ => (w.heap.size ≤ k_)) ho0 (bQZ tB) (fun k_ h_ => h_)) (bQZ tB)) (Kd.R_lower (Kd.R_newM (M := fun k_ => (w.heap.size ≤ k_)) ho1 (bQZ tB) (fun k_ h_ => h_)) (bQZ tB)) (tQ BK706.out hb) (bQT tB hb) ?_; clear HO_1 HO_2 BK706 HB; intro HO_1 HO_2 HO709 HO712 BK706 HB; (try clear hb); (try clear hb2); (try clear hk); (try clear hi); (try clear ho0); (try clear ho1)))
  go_roundg k1
  case measure => have := HK1.out; omega
  case rel => exact ⟨(x2_1), (t710), H', ⟨by have := HK1.out; omega⟩, ⟨by (with_reducible repeat (first | apply Kd.V_alloc | apply Kd.V_drewN | apply Kd.V_drew)); exact Kd.V_mono HO_2.out (fun _ hk => ⟨hk.1.1.1, hk.1.1.2⟩)⟩, ⟨Kd.V_mono (Kd.R_V (by (with_reducible repeat (first | apply Kd.RqA | apply Kd.RqN | apply Kd.RqD)); exact (Kd.R_types HO712.out BK706.out (by decide)))) (fun k_ hk => by first | exact ⟨(.inr (hk.1.1)), hk.2⟩ | exact (.inr ⟨hk.1.1, hk.2⟩))⟩, ⟨tG BK706.out⟩, ⟨tB⟩⟩
def spec_GreatestRight.j0 : Nat → List Int → List Int → Bool → Int → Int → Option (List Int × Int)
  | 0, _, _, _, _, _ => none
  | k + 1, x1, x2, x17, x717000, x717001 => if x17 = true then (some ((([] : List Int)), 1)) else (if (wrap64 ((x1.length : Int) + (x2.length : Int))) = 0 then (some ((([] : List Int)), 4)) else ((spec_l03Greatest.f k x717000 x717001 x1 x2).bind fun t725 => (some (t725, 0))))
def spec_GreatestRight.f (k : Nat) (a0_0 : Int) (a0_1 : Int) (l1 : List Int) (l2 : List Int) : Option (List Int × Int) := (spec_ValidLinear.f k a0_0 a0_1 l1).bind fun t717 => (if t717 = true then ((spec_ValidLinear.f k a0_0 a0_1 l2).bind fun t718 => (spec_GreatestRight.j0 k l1 l2 (!t718) a0_0 a0_1)) else (spec_GreatestRight.j0 k l1 l2 true a0_0 a0_1))
theorem spec_GreatestRight.mono_l : ∀ k, (∀ y0 y1 y2 y3 y4, LeO (spec_GreatestRight.j0 k y0 y1 y2 y3 y4) (spec_GreatestRight.j0 (k + 1) y0 y1 y2 y3 y4))
 | 0 => fun _ _ _ _ _ r h => by simp [spec_GreatestRight.j0] at h
 | k + 1 => by
  have ih0 := spec_GreatestRight.mono_l k
  ·intro y0 y1 y2 y3 y4
   unfold spec_GreatestRight.j0
   repeat' first
   | (with_reducible first | apply ih0 | apply spec_ValidLinear.mono | apply spec_l03Greatest.mono | exact LeO.refl _ | exact LeO.none _ | refine LeO.ite ?_ ?_ | refine LeO.bind ?_ (fun _ => ?_))
   | exact LeO.none _
   | refine LeO.ite ?_ ?_
   | refine LeO.bind ?_ (fun _ => ?_)
theorem spec_GreatestRight.mono : ∀ a0 a1 a2 a3 k, LeO (spec_GreatestRight.f k a0 a1 a2 a3) (spec_GreatestRight.f (k + 1) a0 a1 a2 a3) := by
 intro a0 a1 a2 a3 k
 have ih0 := spec_GreatestRight.mono_l k
 unfold spec_GreatestRight.f
 repeat' first
  | (with_reducible first | apply ih0 | apply spec_ValidLinear.mono | apply spec_l03Greatest.mono | exact LeO.refl _ | exact LeO.none _ | refine LeO.ite ?_ ?_ | refine LeO.bind ?_ (fun _ => ?_))
  | exact LeO.none _
  | refine LeO.ite ?_ ?_
  | refine LeO.bind ?_ (fun _ => ?_)
theorem spec_GreatestRight.calls (k : Nat) (a0_0 : Int) (a0_1 : Int) (A1 : Option Addr) (c1 : Nat) (l1 : List Int) (A2 : Option Addr) (c2 : Nat) (l2 : List Int) (r1 : List Int) (r2 : Int) (w : World) (hr1 : Kd.C (Kd.int .i64) w A1 l1.length l1) (hc1 : l1.length ≤ c1) (hr2 : Kd.C (Kd.int .i64) w A2 l2.length l2) (hc2 : l2.length ≤ c2) (h : spec_GreatestRight.f k a0_0 a0_1 l1 l2 = some (r1, r2)) :
 Calls Try.prog 24 #[.agg #[.int .i64 a0_0, .int .i64 a0_1], .slice A1 l1.length c1, .slice A2 l2.length c2] w fun e w' => ∃ v0_ : Value, e = .returned (.tuple #[v0_, .int .i64 r2]) ∧ Kd.R (Kd.int .i64) 2 w' w.heap.size (fun _ => True) v0_ r1 ∧ Below w.heap.size w w' := by
 have hu27 := Try.underlying27
 have HR1 := Aq.mk hr1
 have HC1 := Aq.mk hc1
 clear hr1 hc1
 have HR2 := Aq.mk hr2
 have HC2 := Aq.mk hc2
 clear hr2 hc2
 have HB := Aq.mk (Below.refl w.heap.size w)
 have H : ((spec_ValidLinear.f k a0_0 a0_1 l1).bind fun t717 => (if t717 = true then ((spec_ValidLinear.f k a0_0 a0_1 l2).bind fun t718 => (spec_GreatestRight.j0 k l1 l2 (!t718) a0_0 a0_1)) else (spec_GreatestRight.j0 k l1 l2 true a0_0 a0_1))) = some (r1, r2) := h
 clear h
 have HC4 := Aq.mk H
 clear H
 go_enter Try.func24, Try.ntmps24
 go_upto_region 1 with (first | ((with_reducible refine gQd (N := 3) rfl ?_); refine xQe ?hg (N := 3) ?hd (cs := #[.int .i64 a0_0, .int .i64 a0_1]) (t := 27) ?hr ?_; (case hd => rfl); (case hg => rfl); (case hr => exact tH); intro gb716 hg w5 hbox hb; refine qM4 (bQT tB hb) hbox (tZ w hg) (tZ w hg) ?_; clear HB; intro HB BK716 GW716 GE716; clear hb hbox hg))
 (try simp only [Act.put, qSa, qSb, qSc])
 go_cut [17] (fun v17 wc => ∃ (kq : Nat) (x17_3 : Bool), v17 = .bool x17_3 ∧ Aq (spec_GreatestRight.j0 kq l1 l2 x17_3 a0_0 a0_1 = some (r1, r2)) ∧ Aq (kq ≤ k) ∧ Aq (wc.heap[gb716]? = some (.cells #[.int .i64 a0_0, .int .i64 a0_1] 27 (0, 0))) ∧ Aq (Below w.heap.size w wc))
 case first =>
  have H := HC4.out
  clear HC4
  obtain ⟨t717, A6, H⟩ := qBd H
  by_cases c7 : t717 = true
  ·subst c7
   rw [if_pos rfl] at H
   obtain ⟨t718, A8, H⟩ := qBd H
   replace H' := Aq.mk H
   clear H
   have hcz9_0 : w5.cell? ⟨gb716, 0, none⟩ = some (.int .i64 a0_0) := (kQC BK716.out 0).trans rfl
   have hcz9_1 : w5.cell? ⟨gb716, 1, none⟩ = some (.int .i64 a0_1) := (kQC BK716.out 1).trans rfl
   have hfz9_0 := kQF BK716.out 0
   have hfz9_1 := kQF BK716.out 1
   go_wp2_with (first | ((with_reducible refine gQc (f := 20) rfl ?_); refine goesL_ (some 10) rfl rfl Try.func20 (by kernel_rfl) rfl #[.agg #[.int .i64 a0_0, .int .i64 a0_1], .slice A1 l1.length c1] rfl tL ?_; (with_reducible refine (spec_ValidLinear.calls k a0_0 a0_1 _ _ l1 true _ ?s1 ?s2 A6.out).mono ?_); (case s1 => exact tC ((Kd.C_below HR1.out HB.out))); (case s2 => exact HC1.out); rintro e w10 ⟨rfl, hb⟩; refine ⟨_, rfl, ?_⟩; refine qM2 (tQ BK716.out hb) (bQT tB hb) ?_; clear BK716 HB; intro BK716 HB; (try clear hb); (try clear hb2); (try clear hk); (try clear hi); have hcz11_0 : w10.cell? ⟨gb716, 0, none⟩ = some (.int .i64 a0_0) := (kQC BK716.out 0).trans rfl; have hcz11_1 : w10.cell? ⟨gb716, 1, none⟩ = some (.int .i64 a0_1) := (kQC BK716.out 1).trans rfl; have hfz11_0 := kQF BK716.out 0; have hfz11_1 := kQF BK716.out 1) | (go_at_call 20; (with_reducible refine (spec_ValidLinear.calls k a0_0 a0_1 _ _ l2 t718 _ ?s1 ?s2 A8.out).mono ?_); (case s1 => exact tC ((Kd.C_below HR2.out HB.out))); (case s2 => exact HC2.out); rintro e w12 ⟨rfl, hb⟩; refine qM2 (tQ BK716.out hb) (bQT tB hb) ?_; clear BK716 HB; intro BK716 HB; (try clear hb); (try clear hb2); (try clear hk); (try clear hi)))
   go_meet
   case rel => exact ⟨_, (!t718), tS, H', ⟨tO⟩, ⟨tG BK716.out⟩, ⟨tB⟩⟩
  replace c7 := Bool.eq_false_iff.mpr c7
  subst c7
  rw [if_neg (show ¬ (false = true) by decide)] at H
  replace H' := Aq.mk H
  clear H
  have hcz13_0 : w5.cell? ⟨gb716, 0, none⟩ = some (.int .i64 a0_0) := (kQC BK716.out 0).trans rfl
  have hcz13_1 : w5.cell? ⟨gb716, 1, none⟩ = some (.int .i64 a0_1) := (kQC BK716.out 1).trans rfl
  have hfz13_0 := kQF BK716.out 0
  have hfz13_1 := kQF BK716.out 1
  go_wp2_with (first | ((with_reducible refine gQc (f := 20) rfl ?_); refine goesL_ (some 10) rfl rfl Try.func20 (by kernel_rfl) rfl #[.agg #[.int .i64 a0_0, .int .i64 a0_1], .slice A1 l1.length c1] rfl tL ?_; (with_reducible refine (spec_ValidLinear.calls k a0_0 a0_1 _ _ l1 false _ ?s1 ?s2 A6.out).mono ?_); (case s1 => exact tC ((Kd.C_below HR1.out HB.out))); (case s2 => exact HC1.out); rintro e w14 ⟨rfl, hb⟩; refine ⟨_, rfl, ?_⟩; refine qM2 (tQ BK716.out hb) (bQT tB hb) ?_; clear BK716 HB; intro BK716 HB; (try clear hb); (try clear hb2); (try clear hk); (try clear hi)))
  go_meet
  case rel => exact ⟨_, (true), tS, H', ⟨tO⟩, ⟨tG BK716.out⟩, ⟨tB⟩⟩
 clear HC4
 try clear c1
 try clear c2
 try clear c7
 try clear hcz11_0
 try clear hcz11_1
 try clear hcz13_0
 try clear hcz13_1
 try clear hcz9_0
 try clear hcz9_1
 try clear hfz11_0
 try clear hfz11_1
 try clear hfz13_0
 try clear hfz13_1
 try clear hfz9_0
 try clear hfz9_1
 obtain ⟨kq, x17_3, rfl, HA, HJ3, BK716, HB⟩ := hcut
 cases kq with
 | zero => exact absurd HA.out (by simp [spec_GreatestRight.j0])
 | succ kj3 =>
  have H := HA.out
  clear HA
  simp only [spec_GreatestRight.j0] at H
  by_cases c15 : x17_3 = true
  ·subst c15
   rw [if_pos rfl] at H
   obtain ⟨y719, hy719⟩ : ∃ y_ : List Int, y_ = (([] : List Int)) := ⟨_, rfl⟩
   replace H : (some (y719, 1)) = some (r1, r2) := by first | (rw [hy719]; with_reducible exact H) | (have H2_ := (Option.bind_some _ _).symm.trans H; rw [hy719]; with_reducible exact H2_) | (have H2_ := (Option.bind_some _ _).symm.trans H; with_reducible exact H2_) | with_reducible exact H | (rw [hy719]; exact H) | exact H
   have Ny719 := Aq.mk hy719
   clear hy719
   simp only [Option.some.injEq, Prod.mk.injEq] at H
   obtain ⟨rfl, rfl⟩ := H
   go_wp2_with (first | ((with_reducible refine gQd (N := 18) rfl ?_); refine Kd.R_lit (Kd.int .i64) _ 2 ?hg (N := 18) ?hd (xs := ([] : List Int)) (inner := []) (ok := fun _ => True) (okp := fun _ => True) ?hr ?hp (fun _ hk => hk) trivial (Below.refl _ _) (Nat.le_refl _) (by simp) ?_; (case hd => rfl); (case hg => rfl); (case hr => exact tH); (case hp => exact (Reps.none _ _)); intro v720 w16 ho17 hb hg_ hnew_; clear hg_ hnew_; (first | rw [← Ny719.out] at ho17 | (simp only [Int.reduceToNat] at ho17; rw [← Ny719.out] at ho17)); refine qM3 (Kd.R_lower ho17 (bQZ tB)) (tQ BK716.out hb) (bQT tB hb) ?_; clear BK716 HB; intro HO721 BK716 HB; clear hb ho17))
   go_ret2
   exact ⟨_, tE, tR HO721.out, tB⟩
  replace c15 := Bool.eq_false_iff.mpr c15
  subst c15
  rw [if_neg (show ¬ (false = true) by decide)] at H
  by_cases c18 : (wrap64 ((l1.length : Int) + (l2.length : Int))) = 0
  ·rw [if_pos c18] at H
   have c18b0 := beq_iff_eq.mpr c18
   have c18b1 := bne_eq_false_iff_eq.mpr c18
   clear c18
   obtain ⟨y722, hy722⟩ : ∃ y_ : List Int, y_ = (([] : List Int)) := ⟨_, rfl⟩
   replace H : (some (y722, 4)) = some (r1, r2) := by first | (rw [hy722]; with_reducible exact H) | (have H2_ := (Option.bind_some _ _).symm.trans H; rw [hy722]; with_reducible exact H2_) | (have H2_ := (Option.bind_some _ _).symm.trans H; with_reducible exact H2_) | with_reducible exact H | (rw [hy722]; exact H) | exact H
   have Ny722 := Aq.mk hy722
   clear hy722
   simp only [Option.some.injEq, Prod.mk.injEq] at H
   obtain ⟨rfl, rfl⟩ := H
   go_wp2_with (first | ((with_reducible refine gQd (N := 25) rfl ?_); refine Kd.R_lit (Kd.int .i64) _ 2 ?hg (N := 25) ?hd (xs := ([] : List Int)) (inner := []) (ok := fun _ => True) (okp := fun _ => True) ?hr ?hp (fun _ hk => hk) trivial (Below.refl _ _) (Nat.le_refl _) (by simp) ?_; (case hd => rfl); (case hg => rfl); (case hr => exact tH); (case hp => exact (Reps.none _ _)); intro v723 w19 ho20 hb hg_ hnew_; clear hg_ hnew_; (first | rw [← Ny722.out] at ho20 | (simp only [Int.reduceToNat] at ho20; rw [← Ny722.out] at ho20)); refine qM3 (Kd.R_lower ho20 (bQZ tB)) (tQ BK716.out hb) (bQT tB hb) ?_; clear BK716 HB; intro HO724 BK716 HB; clear hb ho20))
   go_ret2
   exact ⟨_, tE, tR HO724.out, tB⟩
  rw [if_neg c18] at H
  have c18b0 := beq_eq_false_iff_ne.mpr c18
  have c18b1 := bne_iff_ne.mpr c18
  obtain ⟨t725, A21, H⟩ := qBd H
  simp only [Option.some.injEq, Prod.mk.injEq] at H
  obtain ⟨rfl, rfl⟩ := H
  have hcz22_0 : wc.cell? ⟨gb716, 0, none⟩ = some (.int .i64 a0_0) := (kQC BK716.out 0).trans rfl
  have hcz22_1 : wc.cell? ⟨gb716, 1, none⟩ = some (.int .i64 a0_1) := (kQC BK716.out 1).trans rfl
  have hfz22_0 := kQF BK716.out 0
  have hfz22_1 := kQF BK716.out 1
  go_wp2_with (first | ((with_reducible refine gQc (f := 45) rfl ?_); refine goesL_ (some 29) rfl rfl Try.func45 (by kernel_rfl) rfl #[.agg #[.int .i64 a0_0, .int .i64 a0_1], .slice A1 l1.length c1, .slice A2 l2.length c2] rfl tL ?_; (with_reducible refine (spec_l03Greatest.calls kj3 a0_0 a0_1 (fun k_ => k_ < w.heap.size) _ _ l1 (fun k_ => k_ < w.heap.size) _ _ l2 t725 _ ?s1 ?s2 A21.out).mono ?_); (case s1 => exact Kd.V_mk HC1.out (Kd.F_below (Kd.C_F (Kd.heap_int .i64) HR1.out) tB)); (case s2 => exact Kd.V_mk HC2.out (Kd.F_below (Kd.C_F (Kd.heap_int .i64) HR2.out) tB)); rintro e w23 ⟨v726, rfl, ho0, hb⟩; refine ⟨_, rfl, ?_⟩; refine qM3 (Kd.R_lower (Kd.R_mono (ok' := fun k_ => True) ho0 (fun _ hk_ => trivial)) (bQZ tB)) (tQ BK716.out hb) (bQT tB hb) ?_; clear BK716 HB; intro HO727 BK716 HB; (try clear hb); (try clear hb2); (try clear hk); (try clear hi); (try clear ho0)))
  go_ret2
  exact ⟨_, tE, tR HO727.out, tB⟩
end Go.Proofs.Ytkhjoomjjdgkjaa.P
