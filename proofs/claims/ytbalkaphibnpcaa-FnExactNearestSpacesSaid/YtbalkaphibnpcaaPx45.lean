/- Functions of the program and what they tell, as the printing program wrote it. -/
import Derived.Test.YtbalkaphibnpcaaPx0
import Derived.Test.YtbalkaphibnpcaaPx24
import Derived.Test.YtbalkaphibnpcaaPx26
import Derived.Test.YtbalkaphibnpcaaPx44
namespace Go.Proofs.Ytbalkaphibnpcaa.P
open Go.Shelf Go.RowKit Go.Proofs.YtbalkaphibnpcaaW.PrintWords Go.Proofs.YtbalkaphibnpcaaW.PrintLast Go.Proofs.YtbalkaphibnpcaaW.PrintMore
attribute [local go_sem] max2_int min2_int max_two min_two max_three min_three max_four min_four
set_option linter.unusedVariables false
set_option linter.unusedSimpArgs false
set_option maxHeartbeats 8000000
set_option maxRecDepth 100000
mutual
def impl_NearestSpaces.j0 : Nat → List (S63) → Bool → Int → List Int → Option (Int × List Int × Int)
  | 0, _, _, _, _ => none
  | k + 1, x0, x12, x815000, x815001 => if x12 = true then (some (0, ([] : List Int), 1)) else (if 0 < (x0.length : Int) then (if x815000 = ((rd_T63 x0 0).f0) then (impl_NearestSpaces.l0 k 20 (([] : List Int)) x0 (x0.length : Int) 0 x815000 x815001) else (some (0, ([] : List Int), 2))) else (none))
def impl_NearestSpaces.l0 : Nat → Int → List Int → List (S63) → Int → Int → Int → List Int → Option (Int × List Int × Int)
  | 0, _, _, _, _, _, _, _ => none
  | k + 1, x7, x8, x30, x31, x32, x815000, x815001 => if x32 < x31 then (if 0 ≤ x32 then (if x32 < (x30.length : Int) then ((impl_Matrix_distance.f k x815000 x815001 ((rd_T63 x30 x32).f0) ((rd_T63 x30 x32).f1)).bind fun t823 => (if t823 < x7 then (if ([] : List Int).length < 17592186044416 then (impl_NearestSpaces.l0 k t823 (([] : List Int) ++ [x32]) x30 x31 (wrap64 (x32 + 1)) x815000 x815001) else (none)) else (if t823 = x7 then (if x8.length < 17592186044416 then (impl_NearestSpaces.l0 k x7 (x8 ++ [x32]) x30 x31 (wrap64 (x32 + 1)) x815000 x815001) else (none)) else (impl_NearestSpaces.l0 k x7 x8 x30 x31 (wrap64 (x32 + 1)) x815000 x815001)))) else (none)) else (none)) else (some (x7, x8, 0))
end
def impl_NearestSpaces.f (k : Nat) (l0 : List (S63)) (a1_0 : Int) (l1_1 : List Int) : Option (Int × List Int × Int) := (impl_ValidSpaces.f k l0).bind fun t815 => (if t815 = true then ((impl_IsSpace.f k a1_0 l1_1).bind fun t816 => (impl_NearestSpaces.j0 k l0 (!t816) a1_0 l1_1)) else (impl_NearestSpaces.j0 k l0 true a1_0 l1_1))
theorem impl_NearestSpaces.mono_l : ∀ k, (∀ y0 y1 y2 y3, LeO (impl_NearestSpaces.j0 k y0 y1 y2 y3) (impl_NearestSpaces.j0 (k + 1) y0 y1 y2 y3)) ∧ (∀ y0 y1 y2 y3 y4 y5 y6, LeO (impl_NearestSpaces.l0 k y0 y1 y2 y3 y4 y5 y6) (impl_NearestSpaces.l0 (k + 1) y0 y1 y2 y3 y4 y5 y6))
 | 0 => ⟨fun _ _ _ _ r h => by simp [impl_NearestSpaces.j0] at h, fun _ _ _ _ _ _ _ r h => by simp [impl_NearestSpaces.l0] at h⟩
 | k + 1 => by
  obtain ⟨ih0, ih1⟩ := impl_NearestSpaces.mono_l k
  refine ⟨?_, ?_⟩ <;> intros <;> first | unfold impl_NearestSpaces.j0 | unfold impl_NearestSpaces.l0
  all_goals repeat' first
   | (with_reducible first | apply ih0 | apply ih1 | apply impl_IsSpace.mono | apply impl_Matrix_distance.mono | apply impl_ValidSpaces.mono | exact LeO.refl _ | exact LeO.none _ | refine LeO.ite ?_ ?_ | refine LeO.bind ?_ (fun _ => ?_))
   | exact LeO.none _
   | refine LeO.ite ?_ ?_
   | refine LeO.bind ?_ (fun _ => ?_)
theorem impl_NearestSpaces.mono : ∀ a0 a1 a2 k, LeO (impl_NearestSpaces.f k a0 a1 a2) (impl_NearestSpaces.f (k + 1) a0 a1 a2) := by
 intro a0 a1 a2 k
 obtain ⟨ih0, ih1⟩ := impl_NearestSpaces.mono_l k
 unfold impl_NearestSpaces.f
 repeat' first
  | (with_reducible first | apply ih0 | apply ih1 | apply impl_IsSpace.mono | apply impl_Matrix_distance.mono | apply impl_ValidSpaces.mono | exact LeO.refl _ | exact LeO.none _ | refine LeO.ite ?_ ?_ | refine LeO.bind ?_ (fun _ => ?_))
  | exact LeO.none _
  | refine LeO.ite ?_ ?_
  | refine LeO.bind ?_ (fun _ => ?_)
theorem impl_NearestSpaces.calls (k : Nat) (A0 : Option Addr) (c0 : Nat) (l0 : List (S63)) (a1_0 : Int) (A1_1 : Option Addr) (c1_1 : Nat) (l1_1 : List Int) (r1 : Int) (r2 : List Int) (r3 : Int) (w : World) (hr0 : Kd.C k63 w A0 l0.length l0) (hc0 : l0.length ≤ c0) (hr1_1 : Kd.C (Kd.int .i64) w A1_1 l1_1.length l1_1) (hc1_1 : l1_1.length ≤ c1_1) (h : impl_NearestSpaces.f k l0 a1_0 l1_1 = some (r1, r2, r3)) :
 Calls Try.prog 37 #[.slice A0 l0.length c0, .agg #[.int .i64 a1_0, .slice A1_1 l1_1.length c1_1]] w fun e w' => ∃ v1_ : Value, e = .returned (.tuple #[.int .i64 r1, v1_, .int .i64 r3]) ∧ Kd.R (Kd.int .i64) 2 w' w.heap.size (fun _ => True) v1_ r2 ∧ Below w.heap.size w w' := by
 have hu63 := Try.underlying63
 have HR0 := Aq.mk hr0
 have HC0 := Aq.mk hc0
 clear hr0 hc0
 have HR1_1 := Aq.mk hr1_1
 have HC1_1 := Aq.mk hc1_1
 clear hr1_1 hc1_1
 have HB := Aq.mk (Below.refl w.heap.size w)
 have H : ((impl_ValidSpaces.f k l0).bind fun t815 => (if t815 = true then ((impl_IsSpace.f k a1_0 l1_1).bind fun t816 => (impl_NearestSpaces.j0 k l0 (!t816) a1_0 l1_1)) else (impl_NearestSpaces.j0 k l0 true a1_0 l1_1))) = some (r1, r2, r3) := h
 clear h
 have HC3 := Aq.mk H
 clear H
 go_enter Try.func37, Try.ntmps37
 go_upto_region 1 with (first | ((with_reducible refine gQd (N := 3) rfl ?_); refine xQe ?hg (N := 3) ?hd (cs := #[.int .i64 a1_0, .slice A1_1 l1_1.length c1_1]) (t := 63) ?hr ?_; (case hd => rfl); (case hg => rfl); (case hr => exact tH); intro gb814 hg w4 hbox hb; refine qM4 (bQT tB hb) hbox (tZ w hg) (tZ w hg) ?_; clear HB; intro HB BK814 GW814 GE814; clear hb hbox hg))
 repeat (go_quiet (first | ((with_reducible refine gQd (N := 3) rfl ?_); refine xQe ?hg (N := 3) ?hd (cs := #[.int .i64 a1_0, .slice A1_1 l1_1.length c1_1]) (t := 63) ?hr ?_; (case hd => rfl); (case hg => rfl); (case hr => exact tH); intro gb814 hg w4 hbox hb; refine qM4 (bQT tB hb) hbox (tZ w hg) (tZ w hg) ?_; clear HB; intro HB BK814 GW814 GE814; clear hb hbox hg)); go_upto_region 1 with (first | ((with_reducible refine gQd (N := 3) rfl ?_); refine xQe ?hg (N := 3) ?hd (cs := #[.int .i64 a1_0, .slice A1_1 l1_1.length c1_1]) (t := 63) ?hr ?_; (case hd => rfl); (case hg => rfl); (case hr => exact tH); intro gb814 hg w4 hbox hb; refine qM4 (bQT tB hb) hbox (tZ w hg) (tZ w hg) ?_; clear HB; intro HB BK814 GW814 GE814; clear hb hbox hg)))
 (try simp only [Act.put, qSa, qSb, qSc])
 go_cut [12] (fun v12 wc => ∃ (kq : Nat) (x12_2 : Bool), v12 = .bool x12_2 ∧ Aq (impl_NearestSpaces.j0 kq l0 x12_2 a1_0 l1_1 = some (r1, r2, r3)) ∧ Aq (kq ≤ k) ∧ Aq (wc.heap[gb814]? = some (.cells #[.int .i64 a1_0, (.slice A1_1 l1_1.length c1_1)] 63 (0, 0))) ∧ Aq (Below w.heap.size w wc))
 case first =>
  have H := HC3.out
  clear HC3
  obtain ⟨t815, A5, H⟩ := qBd H
  by_cases c6 : t815 = true
  ·subst c6
   rw [if_pos rfl] at H
   obtain ⟨t816, A7, H⟩ := qBd H
   replace H' := Aq.mk H
   clear H
   go_wp2_with (first | (go_at_call 55; (with_reducible refine (impl_ValidSpaces.calls k _ _ l0 true _ ?s1 ?s2 A5.out).mono ?_); (case s1 => exact tC ((Kd.C_below HR0.out HB.out))); (case s2 => exact HC0.out); rintro e w8 ⟨rfl, hb⟩; refine qM2 (tQ BK814.out hb) (bQT tB hb) ?_; clear BK814 HB; intro BK814 HB; (try clear hb); (try clear hb2); (try clear hk); (try clear hi); have hcz9_0 : w8.cell? ⟨gb814, 0, none⟩ = some (.int .i64 a1_0) := (kQC BK814.out 0).trans rfl; have hcz9_1 : w8.cell? ⟨gb814, 1, none⟩ = some (.slice A1_1 l1_1.length c1_1) := (kQC BK814.out 1).trans rfl; have hfz9_0 := kQF BK814.out 0; have hfz9_1 := kQF BK814.out 1) | (go_at_call 59; (with_reducible refine (impl_IsSpace.calls k a1_0 _ _ l1_1 t816 _ ?s1 ?s2 A7.out).mono ?_); (case s1 => exact tC ((Kd.C_below HR1_1.out HB.out))); (case s2 => exact HC1_1.out); rintro e w10 ⟨rfl, hb⟩; refine qM2 (tQ BK814.out hb) (bQT tB hb) ?_; clear BK814 HB; intro BK814 HB; (try clear hb); (try clear hb2); (try clear hk); (try clear hi)))
   repeat (go_quiet (first | (go_at_call 55; (with_reducible refine (impl_ValidSpaces.calls k _ _ l0 true _ ?s1 ?s2 A5.out).mono ?_); (case s1 => exact tC ((Kd.C_below HR0.out HB.out))); (case s2 => exact HC0.out); rintro e w8 ⟨rfl, hb⟩; refine qM2 (tQ BK814.out hb) (bQT tB hb) ?_; clear BK814 HB; intro BK814 HB; (try clear hb); (try clear hb2); (try clear hk); (try clear hi); have hcz9_0 : w8.cell? ⟨gb814, 0, none⟩ = some (.int .i64 a1_0) := (kQC BK814.out 0).trans rfl; have hcz9_1 : w8.cell? ⟨gb814, 1, none⟩ = some (.slice A1_1 l1_1.length c1_1) := (kQC BK814.out 1).trans rfl; have hfz9_0 := kQF BK814.out 0; have hfz9_1 := kQF BK814.out 1) | (go_at_call 59; (with_reducible refine (impl_IsSpace.calls k a1_0 _ _ l1_1 t816 _ ?s1 ?s2 A7.out).mono ?_); (case s1 => exact tC ((Kd.C_below HR1_1.out HB.out))); (case s2 => exact HC1_1.out); rintro e w10 ⟨rfl, hb⟩; refine qM2 (tQ BK814.out hb) (bQT tB hb) ?_; clear BK814 HB; intro BK814 HB; (try clear hb); (try clear hb2); (try clear hk); (try clear hi))); try go_wp2_with (first | (go_at_call 55; (with_reducible refine (impl_ValidSpaces.calls k _ _ l0 true _ ?s1 ?s2 A5.out).mono ?_); (case s1 => exact tC ((Kd.C_below HR0.out HB.out))); (case s2 => exact HC0.out); rintro e w8 ⟨rfl, hb⟩; refine qM2 (tQ BK814.out hb) (bQT tB hb) ?_; clear BK814 HB; intro BK814 HB; (try clear hb); (try clear hb2); (try clear hk); (try clear hi); have hcz9_0 : w8.cell? ⟨gb814, 0, none⟩ = some (.int .i64 a1_0) := (kQC BK814.out 0).trans rfl; have hcz9_1 : w8.cell? ⟨gb814, 1, none⟩ = some (.slice A1_1 l1_1.length c1_1) := (kQC BK814.out 1).trans rfl; have hfz9_0 := kQF BK814.out 0; have hfz9_1 := kQF BK814.out 1) | (go_at_call 59; (with_reducible refine (impl_IsSpace.calls k a1_0 _ _ l1_1 t816 _ ?s1 ?s2 A7.out).mono ?_); (case s1 => exact tC ((Kd.C_below HR1_1.out HB.out))); (case s2 => exact HC1_1.out); rintro e w10 ⟨rfl, hb⟩; refine qM2 (tQ BK814.out hb) (bQT tB hb) ?_; clear BK814 HB; intro BK814 HB; (try clear hb); (try clear hb2); (try clear hk); (try clear hi))))
   go_meet
   case rel => exact ⟨_, (!t816), tS, H', ⟨tO⟩, ⟨tG BK814.out⟩, ⟨tB⟩⟩
  replace c6 := Bool.eq_false_iff.mpr c6
  subst c6
  rw [if_neg (show ¬ (false = true) by decide)] at H
  replace H' := Aq.mk H
  clear H
  go_wp2_with (first | (go_at_call 55; (with_reducible refine (impl_ValidSpaces.calls k _ _ l0 false _ ?s1 ?s2 A5.out).mono ?_); (case s1 => exact tC ((Kd.C_below HR0.out HB.out))); (case s2 => exact HC0.out); rintro e w11 ⟨rfl, hb⟩; refine qM2 (tQ BK814.out hb) (bQT tB hb) ?_; clear BK814 HB; intro BK814 HB; (try clear hb); (try clear hb2); (try clear hk); (try clear hi)))
  repeat (go_quiet (first | (go_at_call 55; (with_reducible refine (impl_ValidSpaces.calls k _ _ l0 false _ ?s1 ?s2 A5.out).mono ?_); (case s1 => exact tC ((Kd.C_below HR0.out HB.out))); (case s2 => exact HC0.out); rintro e w11 ⟨rfl, hb⟩; refine qM2 (tQ BK814.out hb) (bQT tB hb) ?_; clear BK814 HB; intro BK814 HB; (try clear hb); (try clear hb2); (try clear hk); (try clear hi))); try go_wp2_with (first | (go_at_call 55; (with_reducible refine (impl_ValidSpaces.calls k _ _ l0 false _ ?s1 ?s2 A5.out).mono ?_); (case s1 => exact tC ((Kd.C_below HR0.out HB.out))); (case s2 => exact HC0.out); rintro e w11 ⟨rfl, hb⟩; refine qM2 (tQ BK814.out hb) (bQT tB hb) ?_; clear BK814 HB; intro BK814 HB; (try clear hb); (try clear hb2); (try clear hk); (try clear hi))))
  go_meet
  case rel => exact ⟨_, (true), tS, H', ⟨tO⟩, ⟨tG BK814.out⟩, ⟨tB⟩⟩
 clear HC3
 try clear c6
 try clear hcz9_0
 try clear hcz9_1
 try clear hfz9_0
 try clear hfz9_1
 obtain ⟨kq, x12_2, rfl, HA, HJ2, BK814, HB⟩ := hcut
 cases kq with
 | zero => exact absurd HA.out (by simp [impl_NearestSpaces.j0])
 | succ kj2 =>
  have H := HA.out
  clear HA
  simp only [impl_NearestSpaces.j0] at H
  by_cases c12 : x12_2 = true
  ·subst c12
   rw [if_pos rfl] at H
   simp only [Option.some.injEq, Prod.mk.injEq] at H
   obtain ⟨rfl, rfl, rfl⟩ := H
   go_wp2
   repeat (go_quiet (fail); try go_wp2)
   go_ret3
   exact ⟨_, tE, by first | exact Kd.R_nil _ _ _ _ _ | exact Kd.N_nil _ _ _ _ _ | exact Kd.V_nil _ _ _ _ _ | exact Kd.Q_nil _ _ _ _ _ | exact Kd.S_nil _ _ _ _ _, tB⟩
  replace c12 := Bool.eq_false_iff.mpr c12
  subst c12
  rw [if_neg (show ¬ (false = true) by decide)] at H
  by_cases c13 : 0 < (l0.length : Int)
  rotate_left
  ·rw [if_neg c13] at H
   exact absurd H (by simp)
  rw [if_pos c13] at H
  have c13b0 := decide_eq_true c13
  have c13b1 : decide (0 < l0.length) = true := decide_eq_true (by omega)
  clear c13
  by_cases c14 : a1_0 = ((rd_T63 l0 0).f0)
  rotate_left
  ·rw [if_neg c14] at H
   have c14b0 := beq_eq_false_iff_ne.mpr c14
   have c14b1 := bne_iff_ne.mpr c14
   simp only [Option.some.injEq, Prod.mk.injEq] at H
   obtain ⟨rfl, rfl, rfl⟩ := H
   have hcz43_0 : wc.cell? ⟨gb814, 0, none⟩ = some (.int .i64 a1_0) := (kQC BK814.out 0).trans rfl
   have hcz43_1 : wc.cell? ⟨gb814, 1, none⟩ = some (.slice A1_1 l1_1.length c1_1) := (kQC BK814.out 1).trans rfl
   have hfz43_0 := kQF BK814.out 0
   have hfz43_1 := kQF BK814.out 1
   have p817 : 0 ≤ (0 : Int) := (by omega)
   have q817 : 0 < (l0.length : Int) := of_decide_eq_true tA
   obtain ⟨ad817, A817_1, c817_1, e817, hx817_0, hx817_1, hl817_1, hi817_1⟩ := at_T63 HR0.out 0 p817 q817
   cases e817
   have qi817 : (0 < l0.length) = True := eq_true (by omega)
   (try rw [show ((0 : Int)).toNat = 0 from rfl] at hx817_0)
   (try rw [show 0 * 2 = 0 from rfl] at hx817_0)
   (try rw [Addr.add_zero'] at hx817_0)
   (try rw [show ((0 : Int)).toNat = 0 from rfl] at hx817_1)
   (try rw [show 0 * 2 = 0 from rfl] at hx817_1)
   (try rw [Addr.add_zero'] at hx817_1)
   replace hx817_0 := (HB.out.cell (World.block_lt_of_cell? w _ hx817_0)).trans hx817_0
   replace hx817_1 := (HB.out.cell (World.block_lt_of_cell? w _ hx817_1)).trans hx817_1
   have HR817_1 := Aq.mk hi817_1
   have HC817_1 := Aq.mk hl817_1
   clear hi817_1 hl817_1
   replace p817 := eq_true p817
   replace q817 := eq_true q817
   go_wp2
   repeat (go_quiet (fail); try go_wp2)
   go_ret3
   exact ⟨_, tE, by first | exact Kd.R_nil _ _ _ _ _ | exact Kd.N_nil _ _ _ _ _ | exact Kd.V_nil _ _ _ _ _ | exact Kd.Q_nil _ _ _ _ _ | exact Kd.S_nil _ _ _ _ _, tB⟩
  rw [if_pos c14] at H
  have c14b0 := beq_iff_eq.mpr c14
  have c14b1 := bne_eq_false_iff_eq.mpr c14
  clear c14
  obtain ⟨y818, hy818⟩ : ∃ y_ : List Int, y_ = (([] : List Int)) := ⟨_, rfl⟩
  replace H : (impl_NearestSpaces.l0 kj2 20 y818 l0 (l0.length : Int) 0 a1_0 l1_1) = some (r1, r2, r3) := by first | (rw [hy818]; with_reducible exact H) | (have H2_ := (Option.bind_some _ _).symm.trans H; rw [hy818]; with_reducible exact H2_) | (have H2_ := (Option.bind_some _ _).symm.trans H; with_reducible exact H2_) | with_reducible exact H | (rw [hy818]; exact H) | exact H
  have Ny818 := Aq.mk hy818
  clear hy818
  replace H' := Aq.mk H
  clear H
  have hcz15_0 : wc.cell? ⟨gb814, 0, none⟩ = some (.int .i64 a1_0) := (kQC BK814.out 0).trans rfl
  have hcz15_1 : wc.cell? ⟨gb814, 1, none⟩ = some (.slice A1_1 l1_1.length c1_1) := (kQC BK814.out 1).trans rfl
  have hfz15_0 := kQF BK814.out 0
  have hfz15_1 := kQF BK814.out 1
  have p817 : 0 ≤ (0 : Int) := (by omega)
  have q817 : 0 < (l0.length : Int) := of_decide_eq_true tA
  obtain ⟨ad817, A817_1, c817_1, e817, hx817_0, hx817_1, hl817_1, hi817_1⟩ := at_T63 HR0.out 0 p817 q817
  cases e817
  have qi817 : (0 < l0.length) = True := eq_true (by omega)
  (try rw [show ((0 : Int)).toNat = 0 from rfl] at hx817_0)
  (try rw [show 0 * 2 = 0 from rfl] at hx817_0)
  (try rw [Addr.add_zero'] at hx817_0)
  (try rw [show ((0 : Int)).toNat = 0 from rfl] at hx817_1)
  (try rw [show 0 * 2 = 0 from rfl] at hx817_1)
  (try rw [Addr.add_zero'] at hx817_1)
  replace hx817_0 := (HB.out.cell (World.block_lt_of_cell? w _ hx817_0)).trans hx817_0
  replace hx817_1 := (HB.out.cell (World.block_lt_of_cell? w _ hx817_1)).trans hx817_1
  have HR817_1 := Aq.mk hi817_1
  have HC817_1 := Aq.mk hl817_1
  clear hi817_1 hl817_1
  replace p817 := eq_true p817
  replace q817 := eq_true q817
  go_wp2_with (first | ((with_reducible refine gQd (N := 29) rfl ?_); refine Kd.R_lit (Kd.int .i64) _ 2 ?hg (N := 29) ?hd (xs := ([] : List Int)) (inner := []) (ok := fun _ => True) (okp := fun _ => True) ?hr ?hp (fun _ hk => hk) trivial (Below.refl _ _) (Nat.le_refl _) (by simp) ?_; (case hd => rfl); (case hg => rfl); (case hr => exact tH); (case hp => exact (Reps.none _ _)); intro v819 w16 ho17 hb hg_ hnew_; clear hg_ hnew_; (first | rw [← Ny818.out] at ho17 | (simp only [Int.reduceToNat] at ho17; rw [← Ny818.out] at ho17)); refine qM3 (Kd.R_lower ho17 (bQZ tB)) (tQ BK814.out hb) (bQT tB hb) ?_; clear BK814 HB; intro HO820 BK814 HB; clear hb ho17))
  repeat (go_quiet (first | ((with_reducible refine gQd (N := 29) rfl ?_); refine Kd.R_lit (Kd.int .i64) _ 2 ?hg (N := 29) ?hd (xs := ([] : List Int)) (inner := []) (ok := fun _ => True) (okp := fun _ => True) ?hr ?hp (fun _ hk => hk) trivial (Below.refl _ _) (Nat.le_refl _) (by simp) ?_; (case hd => rfl); (case hg => rfl); (case hr => exact tH); (case hp => exact (Reps.none _ _)); intro v819 w16 ho17 hb hg_ hnew_; clear hg_ hnew_; (first | rw [← Ny818.out] at ho17 | (simp only [Int.reduceToNat] at ho17; rw [← Ny818.out] at ho17)); refine qM3 (Kd.R_lower ho17 (bQZ tB)) (tQ BK814.out hb) (bQT tB hb) ?_; clear BK814 HB; intro HO820 BK814 HB; clear hb ho17)); try go_wp2_with (first | ((with_reducible refine gQd (N := 29) rfl ?_); refine Kd.R_lit (Kd.int .i64) _ 2 ?hg (N := 29) ?hd (xs := ([] : List Int)) (inner := []) (ok := fun _ => True) (okp := fun _ => True) ?hr ?hp (fun _ hk => hk) trivial (Below.refl _ _) (Nat.le_refl _) (by simp) ?_; (case hd => rfl); (case hg => rfl); (case hr => exact tH); (case hp => exact (Reps.none _ _)); intro v819 w16 ho17 hb hg_ hnew_; clear hg_ hnew_; (first | rw [← Ny818.out] at ho17 | (simp only [Int.reduceToNat] at ho17; rw [← Ny818.out] at ho17)); refine qM3 (Kd.R_lower ho17 (bQZ tB)) (tQ BK814.out hb) (bQT tB hb) ?_; clear BK814 HB; intro HO820 BK814 HB; clear hb ho17)))
  go_loopg [7, 8, 32] kj2 (fun kq v7 v8 v32 w' => ∃ (x7_2 : Int) (x8_2 : List Int) (x32_2 : Int), v7 = .int .i64 x7_2 ∧ v32 = .int .i64 x32_2 ∧ Aq (impl_NearestSpaces.l0 kq x7_2 x8_2 l0 (l0.length : Int) x32_2 a1_0 l1_1 = some (r1, r2, r3)) ∧ Aq (kq ≤ kj2) ∧ Aq (Kd.R (Kd.int .i64) 2 w' w.heap.size (fun _ => True) v8 x8_2) ∧ Aq (w'.heap[gb814]? = some (.cells #[.int .i64 a1_0, (.slice A1_1 l1_1.length c1_1)] 63 (0, 0))) ∧ Aq (Below w.heap.size w w'))
  case atStart => exact ⟨(20), (y818), (0), tS, tS, H', ⟨Nat.le_refl _⟩, ⟨tR HO820.out⟩, ⟨tG BK814.out⟩, ⟨tB⟩⟩
  clear H'
  try clear c6
  try clear c12
  try clear c13
  try clear c13b0
  try clear c13b1
  try clear c14
  try clear c14b0
  try clear c14b1
  try clear hcz15_0
  try clear hcz15_1
  try clear hcz9_0
  try clear hcz9_1
  try clear hfz15_0
  try clear hfz15_1
  try clear hfz9_0
  try clear hfz9_1
  try clear hx817_0
  try clear hx817_1
  try clear p817
  try clear q817
  obtain ⟨x7_2, x8_2, x32_2, rfl, rfl, HA, HK2, HO_8, BK814, HB⟩ := hrel
  cases gk with
  | zero => exact absurd HA.out (by simp [impl_NearestSpaces.l0])
  | succ k2 =>
   have H := HA.out
   clear HA
   simp only [impl_NearestSpaces.l0] at H
   by_cases c18 : x32_2 < (l0.length : Int)
   rotate_left
   ·rw [if_neg c18] at H
    have c18b0 := decide_eq_false c18
    clear c18
    simp only [Option.some.injEq, Prod.mk.injEq] at H
    obtain ⟨rfl, rfl, rfl⟩ := H
    go_wp2
    repeat (go_quiet (fail); try go_wp2)
    go_ret3
    exact ⟨_, tE, tR HO_8.out, tB⟩
   rw [if_pos c18] at H
   have c18b0 := decide_eq_true c18
   clear c18
   by_cases c19 : 0 ≤ x32_2
   rotate_left
   ·rw [if_neg c19] at H
    exact absurd H (by simp)
   rw [if_pos c19] at H
   have c19b0 := decide_eq_true c19
   clear c19
   by_cases c20 : x32_2 < (l0.length : Int)
   rotate_left
   ·rw [if_neg c20] at H
    exact absurd H (by simp)
   rw [if_pos c20] at H
   have c20b0 := decide_eq_true c20
   clear c20
   obtain ⟨t823, A21, H⟩ := qBd H
   by_cases c22 : t823 < x7_2
   ·rw [if_pos c22] at H
    have c22b0 := decide_eq_true c22
    clear c22
    by_cases c23 : ([] : List Int).length < 17592186044416
    rotate_left
    ·rw [if_neg c23] at H
     exact absurd H (by simp)
    rw [if_pos c23] at H
    have LMc23 := Aq.mk c23
    clear c23
    obtain ⟨y824, hy824⟩ : ∃ y_ : List Int, y_ = (([] : List Int) ++ [x32_2]) := ⟨_, rfl⟩
    replace H : (impl_NearestSpaces.l0 k2 t823 y824 l0 (l0.length : Int) (wrap64 (x32_2 + 1)) a1_0 l1_1) = some (r1, r2, r3) := by first | (rw [hy824]; with_reducible exact H) | (have H2_ := (Option.bind_some _ _).symm.trans H; rw [hy824]; with_reducible exact H2_) | (have H2_ := (Option.bind_some _ _).symm.trans H; with_reducible exact H2_) | with_reducible exact H | (rw [hy824]; exact H) | exact H
    have Ny824 := Aq.mk hy824
    clear hy824
    replace H' := Aq.mk H
    clear H
    have p821 : 0 ≤ (x32_2 : Int) := of_decide_eq_true tA
    have q821 : x32_2 < (l0.length : Int) := of_decide_eq_true tA
    obtain ⟨ad821, A821_1, c821_1, e821, hx821_0, hx821_1, hl821_1, hi821_1⟩ := at_T63 HR0.out x32_2 p821 q821
    obtain rfl : ad817 = ad821 := (by injection e821)
    replace hx821_0 := (HB.out.cell (World.block_lt_of_cell? w _ hx821_0)).trans hx821_0
    replace hx821_1 := (HB.out.cell (World.block_lt_of_cell? w _ hx821_1)).trans hx821_1
    have HR821_1 := Aq.mk hi821_1
    have HC821_1 := Aq.mk hl821_1
    clear hi821_1 hl821_1
    replace p821 := eq_true p821
    replace q821 := eq_true q821
    go_wp2_with (first | ((with_reducible refine gQd (N := 10) rfl ?_); refine xQe ?hg (N := 10) ?hd (cs := #[.int .i64 0, .slice none 0 0]) (t := 63) ?hr ?_; (case hd => rfl); (case hg => rfl); (case hr => exact tH); intro gb822 hg w24 hbox hb; refine qM8 (Kd.R_below (tR HO_8.out) hb) (tQ BK814.out hb) (bQT tB hb) hbox (tZ w hg) (tZ w hg) ((by rw [hg]; exact Nat.ne_of_lt (blk_lt (g := gb814) (o := .cells #[.int .i64 a1_0, .slice A1_1 l1_1.length c1_1] 63 (0, 0)) (tG BK814.out)) : gb814 ≠ gb822)) ((by rw [hg]; exact Nat.ne_of_gt (blk_lt (g := gb814) (o := .cells #[.int .i64 a1_0, .slice A1_1 l1_1.length c1_1] 63 (0, 0)) (tG BK814.out)) : gb822 ≠ gb814)) ?_; clear HO_8 BK814 HB; intro HO_8 BK814 HB BK822 GW822 GE822 NB814_822 NB822_814; clear hb hbox hg; have hnb25 := NB822_814.out; have hnc25 := NB814_822.out; have hcz26_0 : w24.cell? ⟨gb822, 0, none⟩ = some (.int .i64 0) := (kQC BK822.out 0).trans rfl; have hcz26_1 : w24.cell? ⟨gb822, 1, none⟩ = some (.slice none 0 0) := (kQC BK822.out 1).trans rfl; have hfz26_0 := kQF BK822.out 0; have hfz26_1 := kQF BK822.out 1; have hcz27_0 : w24.cell? ⟨gb814, 0, none⟩ = some (.int .i64 a1_0) := (kQC BK814.out 0).trans rfl; have hcz27_1 : w24.cell? ⟨gb814, 1, none⟩ = some (.slice A1_1 l1_1.length c1_1) := (kQC BK814.out 1).trans rfl; have hfz27_0 := kQF BK814.out 0; have hfz27_1 := kQF BK814.out 1) | (go_at_call 60; (with_reducible refine (impl_Matrix_distance.calls k2 a1_0 _ _ l1_1 ((rd_T63 l0 x32_2).f0) _ _ ((rd_T63 l0 x32_2).f1) t823 _ ?s1 ?s2 ?s3 ?s4 A21.out).mono ?_); (case s1 => exact Kd.C_below HR1_1.out tB); (case s2 => exact HC1_1.out); (case s3 => exact Kd.C_below HR821_1.out tB); (case s4 => exact HC821_1.out); rintro e w28 ⟨rfl, hb⟩; refine qM4 (Kd.R_below (by (with_reducible repeat (first | apply Kd.RqA | apply Kd.RqN | apply Kd.RqD)); exact (Kd.R_mono (Kd.R_far (p := ⟨gb822, 1, none⟩) (Kd.R_far (p := ⟨gb822, 0, none⟩) (Kd.R_types HO_8.out BK822.out (by decide)) (fun _ hk => hk.2) (.int .i64 ((rd_T63 l0 x32_2).f0))) (fun _ hk => hk.2) (.slice A821_1 ((rd_T63 l0 x32_2).f1).length c821_1)) (fun _ h_ => h_.1))) hb) (kQB (g := gb814) (o := .cells #[.int .i64 a1_0, .slice A1_1 l1_1.length c1_1] 63 (0, 0)) (by (with_reducible repeat (first | refine kQN ?_ _ | refine kQD ?_ | refine kQA ?_ _)); refine kQR ?_ NB814_822.out _; (with_reducible repeat (first | refine kQN ?_ _ | refine kQD ?_ | refine kQA ?_ _)); refine kQR ?_ NB814_822.out _; (with_reducible repeat (first | refine kQN ?_ _ | refine kQD ?_ | refine kQA ?_ _)); exact BK814.out) hb) (kQB (g := gb822) (o := .cells #[.int .i64 ((rd_T63 l0 x32_2).f0), .slice A821_1 ((rd_T63 l0 x32_2).f1).length c821_1] 63 (0, 0)) (by (with_reducible repeat (first | refine kQN ?_ _ | refine kQD ?_ | refine kQA ?_ _)); refine kQP (cs := #[.int .i64 ((rd_T63 l0 x32_2).f0), .slice none 0 0]) ?_ 1 _ rfl; (with_reducible repeat (first | refine kQN ?_ _ | refine kQD ?_ | refine kQA ?_ _)); refine kQP (cs := #[.int .i64 0, .slice none 0 0]) ?_ 0 _ rfl; (with_reducible repeat (first | refine kQN ?_ _ | refine kQD ?_ | refine kQA ?_ _)); exact BK822.out) hb) (bQT tB hb) ?_; clear HO_8 BK814 BK822 HB; intro HO_8 BK814 BK822 HB; (try clear hb); (try clear hb2); (try clear hk); (try clear hi)) | ((with_reducible refine gate_builtin (b := .append) (xs := #[.tmp 47, .tmp 49]) rfl ?_); at_builtin; refine Kd.R_append (Kd.int .i64) (w0 := w) w.heap.size rfl (.tmp 47) (.tmp 49) 38 2 (.int .i64 0) 8 rfl Try.underlying38 info2 rfl (by decide) (by omega) (.slice none 0 0) ([] : List Int) x32_2 [.int .i64 x32_2] (fun k_ => some k_ ≠ (u8 : Value).ownBlock) (fun _ => False) rfl rfl ?aP (fun _ hk => hk.elim) ?aF ?aO ?aB ?aS ?aL ?_; (case aP => exact rfl); (case aB => exact tB); (case aF => exact (fun k_ hk => Kd.fresh' (Kd.R_lt (tR HO_8.out)) k_ hk)); (case aO => exact ((Kd.R_nil _ _ _ _ (fun k_ => some k_ ≠ (u8 : Value).ownBlock)))); (case aS => exact (bQZ tB)); (case aL => have := LMc23.out; omega); intro v825 w29 ho hb hg hat; rw [← Ny824.out] at ho; refine qM5 (Kd.R_after (Kd.R_apart_nil (tR HO_8.out)) hg hat) (blk_grown (g := gb814) (o := .cells #[.int .i64 a1_0, .slice A1_1 l1_1.length c1_1] 63 (0, 0)) (tG BK814.out) hg (by simp [Value.ownBlock])) (blk_grown (g := gb822) (o := .cells #[.int .i64 ((rd_T63 l0 x32_2).f0), .slice A821_1 ((rd_T63 l0 x32_2).f1).length c821_1] 63 (0, 0)) (tG BK822.out) hg (by simp [Value.ownBlock])) hb ho ?_; clear HO_8 BK814 BK822 HB; intro HO_8 BK814 BK822 HB HO826; clear ho hb hg hat))
    repeat (go_quiet (first | ((with_reducible refine gQd (N := 10) rfl ?_); refine xQe ?hg (N := 10) ?hd (cs := #[.int .i64 0, .slice none 0 0]) (t := 63) ?hr ?_; (case hd => rfl); (case hg => rfl); (case hr => exact tH); intro gb822 hg w24 hbox hb; refine qM8 (Kd.R_below (tR HO_8.out) hb) (tQ BK814.out hb) (bQT tB hb) hbox (tZ w hg) (tZ w hg) ((by rw [hg]; exact Nat.ne_of_lt (blk_lt (g := gb814) (o := .cells #[.int .i64 a1_0, .slice A1_1 l1_1.length c1_1] 63 (0, 0)) (tG BK814.out)) : gb814 ≠ gb822)) ((by rw [hg]; exact Nat.ne_of_gt (blk_lt (g := gb814) (o := .cells #[.int .i64 a1_0, .slice A1_1 l1_1.length c1_1] 63 (0, 0)) (tG BK814.out)) : gb822 ≠ gb814)) ?_; clear HO_8 BK814 HB; intro HO_8 BK814 HB BK822 GW822 GE822 NB814_822 NB822_814; clear hb hbox hg; have hnb25 := NB822_814.out; have hnc25 := NB814_822.out; have hcz26_0 : w24.cell? ⟨gb822, 0, none⟩ = some (.int .i64 0) := (kQC BK822.out 0).trans rfl; have hcz26_1 : w24.cell? ⟨gb822, 1, none⟩ = some (.slice none 0 0) := (kQC BK822.out 1).trans rfl; have hfz26_0 := kQF BK822.out 0; have hfz26_1 := kQF BK822.out 1; have hcz27_0 : w24.cell? ⟨gb814, 0, none⟩ = some (.int .i64 a1_0) := (kQC BK814.out 0).trans rfl; have hcz27_1 : w24.cell? ⟨gb814, 1, none⟩ = some (.slice A1_1 l1_1.length c1_1) := (kQC BK814.out 1).trans rfl; have hfz27_0 := kQF BK814.out 0; have hfz27_1 := kQF BK814.out 1) | (go_at_call 60; (with_reducible refine (impl_Matrix_distance.calls k2 a1_0 _ _ l1_1 ((rd_T63 l0 x32_2).f0) _ _ ((rd_T63 l0 x32_2).f1) t823 _ ?s1 ?s2 ?s3 ?s4 A21.out).mono ?_); (case s1 => exact Kd.C_below HR1_1.out tB); (case s2 => exact HC1_1.out); (case s3 => exact Kd.C_below HR821_1.out tB); (case s4 => exact HC821_1.out); rintro e w28 ⟨rfl, hb⟩; refine qM4 (Kd.R_below (by (with_reducible repeat (first | apply Kd.RqA | apply Kd.RqN | apply Kd.RqD)); exact (Kd.R_mono (Kd.R_far (p := ⟨gb822, 1, none⟩) (Kd.R_far (p := ⟨gb822, 0, none⟩) (Kd.R_types HO_8.out BK822.out (by decide)) (fun _ hk => hk.2) (.int .i64 ((rd_T63 l0 x32_2).f0))) (fun _ hk => hk.2) (.slice A821_1 ((rd_T63 l0 x32_2).f1).length c821_1)) (fun _ h_ => h_.1))) hb) (kQB (g := gb814) (o := .cells #[.int .i64 a1_0, .slice A1_1 l1_1.length c1_1] 63 (0, 0)) (by (with_reducible repeat (first | refine kQN ?_ _ | refine kQD ?_ | refine kQA ?_ _)); refine kQR ?_ NB814_822.out _; (with_reducible repeat (first | refine kQN ?_ _ | refine kQD ?_ | refine kQA ?_ _)); refine kQR ?_ NB814_822.out _; (with_reducible repeat (first | refine kQN ?_ _ | refine kQD ?_ | refine kQA ?_ _)); exact BK814.out) hb) (kQB (g := gb822) (o := .cells #[.int .i64 ((rd_T63 l0 x32_2).f0), .slice A821_1 ((rd_T63 l0 x32_2).f1).length c821_1] 63 (0, 0)) (by (with_reducible repeat (first | refine kQN ?_ _ | refine kQD ?_ | refine kQA ?_ _)); refine kQP (cs := #[.int .i64 ((rd_T63 l0 x32_2).f0), .slice none 0 0]) ?_ 1 _ rfl; (with_reducible repeat (first | refine kQN ?_ _ | refine kQD ?_ | refine kQA ?_ _)); refine kQP (cs := #[.int .i64 0, .slice none 0 0]) ?_ 0 _ rfl; (with_reducible repeat (first | refine kQN ?_ _ | refine kQD ?_ | refine kQA ?_ _)); exact BK822.out) hb) (bQT tB hb) ?_; clear HO_8 BK814 BK822 HB; intro HO_8 BK814 BK822 HB; (try clear hb); (try clear hb2); (try clear hk); (try clear hi)) | ((with_reducible refine gate_builtin (b := .append) (xs := #[.tmp 47, .tmp 49]) rfl ?_); at_builtin; refine Kd.R_append (Kd.int .i64) (w0 := w) w.heap.size rfl (.tmp 47) (.tmp 49) 38 2 (.int .i64 0) 8 rfl Try.underlying38 info2 rfl (by decide) (by omega) (.slice none 0 0) ([] : List Int) x32_2 [.int .i64 x32_2] (fun k_ => some k_ ≠ (u8 : Value).ownBlock) (fun _ => False) rfl rfl ?aP (fun _ hk => hk.elim) ?aF ?aO ?aB ?aS ?aL ?_; (case aP => exact rfl); (case aB => exact tB); (case aF => exact (fun k_ hk => Kd.fresh' (Kd.R_lt (tR HO_8.out)) k_ hk)); (case aO => exact ((Kd.R_nil _ _ _ _ (fun k_ => some k_ ≠ (u8 : Value).ownBlock)))); (case aS => exact (bQZ tB)); (case aL => have := LMc23.out; omega); intro v825 w29 ho hb hg hat; rw [← Ny824.out] at ho; refine qM5 (Kd.R_after (Kd.R_apart_nil (tR HO_8.out)) hg hat) (blk_grown (g := gb814) (o := .cells #[.int .i64 a1_0, .slice A1_1 l1_1.length c1_1] 63 (0, 0)) (tG BK814.out) hg (by simp [Value.ownBlock])) (blk_grown (g := gb822) (o := .cells #[.int .i64 ((rd_T63 l0 x32_2).f0), .slice A821_1 ((rd_T63 l0 x32_2).f1).length c821_1] 63 (0, 0)) (tG BK822.out) hg (by simp [Value.ownBlock])) hb ho ?_; clear HO_8 BK814 BK822 HB; intro HO_8 BK814 BK822 HB HO826; clear ho hb hg hat)); try go_wp2_with (first | ((with_reducible refine gQd (N := 10) rfl ?_); refine xQe ?hg (N := 10) ?hd (cs := #[.int .i64 0, .slice none 0 0]) (t := 63) ?hr ?_; (case hd => rfl); (case hg => rfl); (case hr => exact tH); intro gb822 hg w24 hbox hb; refine qM8 (Kd.R_below (tR HO_8.out) hb) (tQ BK814.out hb) (bQT tB hb) hbox (tZ w hg) (tZ w hg) ((by rw [hg]; exact Nat.ne_of_lt (blk_lt (g := gb814) (o := .cells #[.int .i64 a1_0, .slice A1_1 l1_1.length c1_1] 63 (0, 0)) (tG BK814.out)) : gb814 ≠ gb822)) ((by rw [hg]; exact Nat.ne_of_gt (blk_lt (g := gb814) (o := .cells #[.int .i64 a1_0, .slice A1_1 l1_1.length c1_1] 63 (0, 0)) (tG BK814.out)) : gb822 ≠ gb814)) ?_; clear HO_8 BK814 HB; intro HO_8 BK814 HB BK822 GW822 GE822 NB814_822 NB822_814; clear hb hbox hg; have hnb25 := NB822_814.out; have hnc25 := NB814_822.out; have hcz26_0 : w24.cell? ⟨gb822, 0, none⟩ = some (.int .i64 0) := (kQC BK822.out 0).trans rfl; have hcz26_1 : w24.cell? ⟨gb822, 1, none⟩ = some (.slice none 0 0) := (kQC BK822.out 1).trans rfl; have hfz26_0 := kQF BK822.out 0; have hfz26_1 := kQF BK822.out 1; have hcz27_0 : w24.cell? ⟨gb814, 0, none⟩ = some (.int .i64 a1_0) := (kQC BK814.out 0).trans rfl; have hcz27_1 : w24.cell? ⟨gb814, 1, none⟩ = some (.slice A1_1 l1_1.length c1_1) := (kQC BK814.out 1).trans rfl; have hfz27_0 := kQF BK814.out 0; have hfz27_1 := kQF BK814.out 1) | (go_at_call 60; (with_reducible refine (impl_Matrix_distance.calls k2 a1_0 _ _ l1_1 ((rd_T63 l0 x32_2).f0) _ _ ((rd_T63 l0 x32_2).f1) t823 _ ?s1 ?s2 ?s3 ?s4 A21.out).mono ?_); (case s1 => exact Kd.C_below HR1_1.out tB); (case s2 => exact HC1_1.out); (case s3 => exact Kd.C_below HR821_1.out tB); (case s4 => exact HC821_1.out); rintro e w28 ⟨rfl, hb⟩; refine qM4 (Kd.R_below (by (with_reducible repeat (first | apply Kd.RqA | apply Kd.RqN | apply Kd.RqD)); exact (Kd.R_mono (Kd.R_far (p := ⟨gb822, 1, none⟩) (Kd.R_far (p := ⟨gb822, 0, none⟩) (Kd.R_types HO_8.out BK822.out (by decide)) (fun _ hk => hk.2) (.int .i64 ((rd_T63 l0 x32_2).f0))) (fun _ hk => hk.2) (.slice A821_1 ((rd_T63 l0 x32_2).f1).length c821_1)) (fun _ h_ => h_.1))) hb) (kQB (g := gb814) (o := .cells #[.int .i64 a1_0, .slice A1_1 l1_1.length c1_1] 63 (0, 0)) (by (with_reducible repeat (first | refine kQN ?_ _ | refine kQD ?_ | refine kQA ?_ _)); refine kQR ?_ NB814_822.out _; (with_reducible repeat (first | refine kQN ?_ _ | refine kQD ?_ | refine kQA ?_ _)); refine kQR ?_ NB814_822.out _; (with_reducible repeat (first | refine kQN ?_ _ | refine kQD ?_ | refine kQA ?_ _)); exact BK814.out) hb) (kQB (g := gb822) (o := .cells #[.int .i64 ((rd_T63 l0 x32_2).f0), .slice A821_1 ((rd_T63 l0 x32_2).f1).length c821_1] 63 (0, 0)) (by (with_reducible repeat (first | refine kQN ?_ _ | refine kQD ?_ | refine kQA ?_ _)); refine kQP (cs := #[.int .i64 ((rd_T63 l0 x32_2).f0), .slice none 0 0]) ?_ 1 _ rfl; (with_reducible repeat (first | refine kQN ?_ _ | refine kQD ?_ | refine kQA ?_ _)); refine kQP (cs := #[.int .i64 0, .slice none 0 0]) ?_ 0 _ rfl; (with_reducible repeat (first | refine kQN ?_ _ | refine kQD ?_ | refine kQA ?_ _)); exact BK822.out) hb) (bQT tB hb) ?_; clear HO_8 BK814 BK822 HB; intro HO_8 BK814 BK822 HB; (try clear hb); (try clear hb2); (try clear hk); (try clear hi)) | ((with_reducible refine gate_builtin (b := .append) (xs := #[.tmp 47, .tmp 49]) rfl ?_); at_builtin; refine Kd.R_append (Kd.int .i64) (w0 := w) w.heap.size rfl (.tmp 47) (.tmp 49) 38 2 (.int .i64 0) 8 rfl Try.underlying38 info2 rfl (by decide) (by omega) (.slice none 0 0) ([] : List Int) x32_2 [.int .i64 x32_2] (fun k_ => some k_ ≠ (u8 : Value).ownBlock) (fun _ => False) rfl rfl ?aP (fun _ hk => hk.elim) ?aF ?aO ?aB ?aS ?aL ?_; (case aP => exact rfl); (case aB => exact tB); (case aF => exact (fun k_ hk => Kd.fresh' (Kd.R_lt (tR HO_8.out)) k_ hk)); (case aO => exact ((Kd.R_nil _ _ _ _ (fun k_ => some k_ ≠ (u8 : Value).ownBlock)))); (case aS => exact (bQZ tB)); (case aL => have := LMc23.out; omega); intro v825 w29 ho hb hg hat; rw [← Ny824.out] at ho; refine qM5 (Kd.R_after (Kd.R_apart_nil (tR HO_8.out)) hg hat) (blk_grown (g := gb814) (o := .cells #[.int .i64 a1_0, .slice A1_1 l1_1.length c1_1] 63 (0, 0)) (tG BK814.out) hg (by simp [Value.ownBlock])) (blk_grown (g := gb822) (o := .cells #[.int .i64 ((rd_T63 l0 x32_2).f0), .slice A821_1 ((rd_T63 l0 x32_2).f1).length c821_1] 63 (0, 0)) (tG BK822.out) hg (by simp [Value.ownBlock])) hb ho ?_; clear HO_8 BK814 BK822 HB; intro HO_8 BK814 BK822 HB HO826; clear ho hb hg hat)))
    go_roundg k2
    case measure => have := HJ2.out; have := HK2.out; omega
    case rel => exact ⟨(t823), (y824), (wrap64 (x32_2 + 1)), tS, tS, H', ⟨by have := HJ2.out; have := HK2.out; omega⟩, ⟨by (with_reducible repeat (first | apply Kd.RqA | apply Kd.RqN | apply Kd.RqD)); exact Kd.R_mono HO826.out (fun _ hk => trivial)⟩, ⟨tG BK814.out⟩, ⟨tB⟩⟩
   rw [if_neg c22] at H
   have c22b0 := decide_eq_false c22
   clear c22
   by_cases c30 : t823 = x7_2
   rotate_left
   ·rw [if_neg c30] at H
    have c30b0 := beq_eq_false_iff_ne.mpr c30
    have c30b1 := bne_iff_ne.mpr c30
    replace H' := Aq.mk H
    clear H
    have p821 : 0 ≤ (x32_2 : Int) := of_decide_eq_true tA
    have q821 : x32_2 < (l0.length : Int) := of_decide_eq_true tA
    obtain ⟨ad821, A821_1, c821_1, e821, hx821_0, hx821_1, hl821_1, hi821_1⟩ := at_T63 HR0.out x32_2 p821 q821
    obtain rfl : ad817 = ad821 := (by injection e821)
    replace hx821_0 := (HB.out.cell (World.block_lt_of_cell? w _ hx821_0)).trans hx821_0
    replace hx821_1 := (HB.out.cell (World.block_lt_of_cell? w _ hx821_1)).trans hx821_1
    have HR821_1 := Aq.mk hi821_1
    have HC821_1 := Aq.mk hl821_1
    clear hi821_1 hl821_1
    replace p821 := eq_true p821
    replace q821 := eq_true q821
    go_wp2_with (first | ((with_reducible refine gQd (N := 10) rfl ?_); refine xQe ?hg (N := 10) ?hd (cs := #[.int .i64 0, .slice none 0 0]) (t := 63) ?hr ?_; (case hd => rfl); (case hg => rfl); (case hr => exact tH); intro gb822 hg w38 hbox hb; refine qM8 (Kd.R_below (tR HO_8.out) hb) (tQ BK814.out hb) (bQT tB hb) hbox (tZ w hg) (tZ w hg) ((by rw [hg]; exact Nat.ne_of_lt (blk_lt (g := gb814) (o := .cells #[.int .i64 a1_0, .slice A1_1 l1_1.length c1_1] 63 (0, 0)) (tG BK814.out)) : gb814 ≠ gb822)) ((by rw [hg]; exact Nat.ne_of_gt (blk_lt (g := gb814) (o := .cells #[.int .i64 a1_0, .slice A1_1 l1_1.length c1_1] 63 (0, 0)) (tG BK814.out)) : gb822 ≠ gb814)) ?_; clear HO_8 BK814 HB; intro HO_8 BK814 HB BK822 GW822 GE822 NB814_822 NB822_814; clear hb hbox hg; have hnb39 := NB822_814.out; have hnc39 := NB814_822.out; have hcz40_0 : w38.cell? ⟨gb822, 0, none⟩ = some (.int .i64 0) := (kQC BK822.out 0).trans rfl; have hcz40_1 : w38.cell? ⟨gb822, 1, none⟩ = some (.slice none 0 0) := (kQC BK822.out 1).trans rfl; have hfz40_0 := kQF BK822.out 0; have hfz40_1 := kQF BK822.out 1; have hcz41_0 : w38.cell? ⟨gb814, 0, none⟩ = some (.int .i64 a1_0) := (kQC BK814.out 0).trans rfl; have hcz41_1 : w38.cell? ⟨gb814, 1, none⟩ = some (.slice A1_1 l1_1.length c1_1) := (kQC BK814.out 1).trans rfl; have hfz41_0 := kQF BK814.out 0; have hfz41_1 := kQF BK814.out 1) | (go_at_call 60; (with_reducible refine (impl_Matrix_distance.calls k2 a1_0 _ _ l1_1 ((rd_T63 l0 x32_2).f0) _ _ ((rd_T63 l0 x32_2).f1) t823 _ ?s1 ?s2 ?s3 ?s4 A21.out).mono ?_); (case s1 => exact Kd.C_below HR1_1.out tB); (case s2 => exact HC1_1.out); (case s3 => exact Kd.C_below HR821_1.out tB); (case s4 => exact HC821_1.out); rintro e w42 ⟨rfl, hb⟩; refine qM4 (Kd.R_below (by (with_reducible repeat (first | apply Kd.RqA | apply Kd.RqN | apply Kd.RqD)); exact (Kd.R_mono (Kd.R_far (p := ⟨gb822, 1, none⟩) (Kd.R_far (p := ⟨gb822, 0, none⟩) (Kd.R_types HO_8.out BK822.out (by decide)) (fun _ hk => hk.2) (.int .i64 ((rd_T63 l0 x32_2).f0))) (fun _ hk => hk.2) (.slice A821_1 ((rd_T63 l0 x32_2).f1).length c821_1)) (fun _ h_ => h_.1))) hb) (kQB (g := gb814) (o := .cells #[.int .i64 a1_0, .slice A1_1 l1_1.length c1_1] 63 (0, 0)) (by (with_reducible repeat (first | refine kQN ?_ _ | refine kQD ?_ | refine kQA ?_ _)); refine kQR ?_ NB814_822.out _; (with_reducible repeat (first | refine kQN ?_ _ | refine kQD ?_ | refine kQA ?_ _)); refine kQR ?_ NB814_822.out _; (with_reducible repeat (first | refine kQN ?_ _ | refine kQD ?_ | refine kQA ?_ _)); exact BK814.out) hb) (kQB (g := gb822) (o := .cells #[.int .i64 ((rd_T63 l0 x32_2).f0), .slice A821_1 ((rd_T63 l0 x32_2).f1).length c821_1] 63 (0, 0)) (by (with_reducible repeat (first | refine kQN ?_ _ | refine kQD ?_ | refine kQA ?_ _)); refine kQP (cs := #[.int .i64 ((rd_T63 l0 x32_2).f0), .slice none 0 0]) ?_ 1 _ rfl; (with_reducible repeat (first | refine kQN ?_ _ | refine kQD ?_ | refine kQA ?_ _)); refine kQP (cs := #[.int .i64 0, .slice none 0 0]) ?_ 0 _ rfl; (with_reducible repeat (first | refine kQN ?_ _ | refine kQD ?_ | refine kQA ?_ _)); exact BK822.out) hb) (bQT tB hb) ?_; clear HO_8 BK814 BK822 HB; intro HO_8 BK814 BK822 HB; (try clear hb); (try clear hb2); (try clear hk); (try clear hi)))
    repeat (go_quiet (first | ((with_reducible refine gQd (N := 10) rfl ?_); refine xQe ?hg (N := 10) ?hd (cs := #[.int .i64 0, .slice none 0 0]) (t := 63) ?hr ?_; (case hd => rfl); (case hg => rfl); (case hr => exact tH); intro gb822 hg w38 hbox hb; refine qM8 (Kd.R_below (tR HO_8.out) hb) (tQ BK814.out hb) (bQT tB hb) hbox (tZ w hg) (tZ w hg) ((by rw [hg]; exact Nat.ne_of_lt (blk_lt (g := gb814) (o := .cells #[.int .i64 a1_0, .slice A1_1 l1_1.length c1_1] 63 (0, 0)) (tG BK814.out)) : gb814 ≠ gb822)) ((by rw [hg]; exact Nat.ne_of_gt (blk_lt (g := gb814) (o := .cells #[.int .i64 a1_0, .slice A1_1 l1_1.length c1_1] 63 (0, 0)) (tG BK814.out)) : gb822 ≠ gb814)) ?_; clear HO_8 BK814 HB; intro HO_8 BK814 HB BK822 GW822 GE822 NB814_822 NB822_814; clear hb hbox hg; have hnb39 := NB822_814.out; have hnc39 := NB814_822.out; have hcz40_0 : w38.cell? ⟨gb822, 0, none⟩ = some (.int .i64 0) := (kQC BK822.out 0).trans rfl; have hcz40_1 : w38.cell? ⟨gb822, 1, none⟩ = some (.slice none 0 0) := (kQC BK822.out 1).trans rfl; have hfz40_0 := kQF BK822.out 0; have hfz40_1 := kQF BK822.out 1; have hcz41_0 : w38.cell? ⟨gb814, 0, none⟩ = some (.int .i64 a1_0) := (kQC BK814.out 0).trans rfl; have hcz41_1 : w38.cell? ⟨gb814, 1, none⟩ = some (.slice A1_1 l1_1.length c1_1) := (kQC BK814.out 1).trans rfl; have hfz41_0 := kQF BK814.out 0; have hfz41_1 := kQF BK814.out 1) | (go_at_call 60; (with_reducible refine (impl_Matrix_distance.calls k2 a1_0 _ _ l1_1 ((rd_T63 l0 x32_2).f0) _ _ ((rd_T63 l0 x32_2).f1) t823 _ ?s1 ?s2 ?s3 ?s4 A21.out).mono ?_); (case s1 => exact Kd.C_below HR1_1.out tB); (case s2 => exact HC1_1.out); (case s3 => exact Kd.C_below HR821_1.out tB); (case s4 => exact HC821_1.out); rintro e w42 ⟨rfl, hb⟩; refine qM4 (Kd.R_below (by (with_reducible repeat (first | apply Kd.RqA | apply Kd.RqN | apply Kd.RqD)); exact (Kd.R_mono (Kd.R_far (p := ⟨gb822, 1, none⟩) (Kd.R_far (p := ⟨gb822, 0, none⟩) (Kd.R_types HO_8.out BK822.out (by decide)) (fun _ hk => hk.2) (.int .i64 ((rd_T63 l0 x32_2).f0))) (fun _ hk => hk.2) (.slice A821_1 ((rd_T63 l0 x32_2).f1).length c821_1)) (fun _ h_ => h_.1))) hb) (kQB (g := gb814) (o := .cells #[.int .i64 a1_0, .slice A1_1 l1_1.length c1_1] 63 (0, 0)) (by (with_reducible repeat (first | refine kQN ?_ _ | refine kQD ?_ | refine kQA ?_ _)); refine kQR ?_ NB814_822.out _; (with_reducible repeat (first | refine kQN ?_ _ | refine kQD ?_ | refine kQA ?_ _)); refine kQR ?_ NB814_822.out _; (with_reducible repeat (first | refine kQN ?_ _ | refine kQD ?_ | refine kQA ?_ _)); exact BK814.out) hb) (kQB (g := gb822) (o := .cells #[.int .i64 ((rd_T63 l0 x32_2).f0), .slice A821_1 ((rd_T63 l0 x32_2).f1).length c821_1] 63 (0, 0)) (by (with_reducible repeat (first | refine kQN ?_ _ | refine kQD ?_ | refine kQA ?_ _)); refine kQP (cs := #[.int .i64 ((rd_T63 l0 x32_2).f0), .slice none 0 0]) ?_ 1 _ rfl; (with_reducible repeat (first | refine kQN ?_ _ | refine kQD ?_ | refine kQA ?_ _)); refine kQP (cs := #[.int .i64 0, .slice none 0 0]) ?_ 0 _ rfl; (with_reducible repeat (first | refine kQN ?_ _ | refine kQD ?_ | refine kQA ?_ _)); exact BK822.out) hb) (bQT tB hb) ?_; clear HO_8 BK814 BK822 HB; intro HO_8 BK814 BK822 HB; (try clear hb); (try clear hb2); (try clear hk); (try clear hi))); try go_wp2_with (first | ((with_reducible refine gQd (N := 10) rfl ?_); refine xQe ?hg (N := 10) ?hd (cs := #[.int .i64 0, .slice none 0 0]) (t := 63) ?hr ?_; (case hd => rfl); (case hg => rfl); (case hr => exact tH); intro gb822 hg w38 hbox hb; refine qM8 (Kd.R_below (tR HO_8.out) hb) (tQ BK814.out hb) (bQT tB hb) hbox (tZ w hg) (tZ w hg) ((by rw [hg]; exact Nat.ne_of_lt (blk_lt (g := gb814) (o := .cells #[.int .i64 a1_0, .slice A1_1 l1_1.length c1_1] 63 (0, 0)) (tG BK814.out)) : gb814 ≠ gb822)) ((by rw [hg]; exact Nat.ne_of_gt (blk_lt (g := gb814) (o := .cells #[.int .i64 a1_0, .slice A1_1 l1_1.length c1_1] 63 (0, 0)) (tG BK814.out)) : gb822 ≠ gb814)) ?_; clear HO_8 BK814 HB; intro HO_8 BK814 HB BK822 GW822 GE822 NB814_822 NB822_814; clear hb hbox hg; have hnb39 := NB822_814.out; have hnc39 := NB814_822.out; have hcz40_0 : w38.cell? ⟨gb822, 0, none⟩ = some (.int .i64 0) := (kQC BK822.out 0).trans rfl; have hcz40_1 : w38.cell? ⟨gb822, 1, none⟩ = some (.slice none 0 0) := (kQC BK822.out 1).trans rfl; have hfz40_0 := kQF BK822.out 0; have hfz40_1 := kQF BK822.out 1; have hcz41_0 : w38.cell? ⟨gb814, 0, none⟩ = some (.int .i64 a1_0) := (kQC BK814.out 0).trans rfl; have hcz41_1 : w38.cell? ⟨gb814, 1, none⟩ = some (.slice A1_1 l1_1.length c1_1) := (kQC BK814.out 1).trans rfl; have hfz41_0 := kQF BK814.out 0; have hfz41_1 := kQF BK814.out 1) | (go_at_call 60; (with_reducible refine (impl_Matrix_distance.calls k2 a1_0 _ _ l1_1 ((rd_T63 l0 x32_2).f0) _ _ ((rd_T63 l0 x32_2).f1) t823 _ ?s1 ?s2 ?s3 ?s4 A21.out).mono ?_); (case s1 => exact Kd.C_below HR1_1.out tB); (case s2 => exact HC1_1.out); (case s3 => exact Kd.C_below HR821_1.out tB); (case s4 => exact HC821_1.out); rintro e w42 ⟨rfl, hb⟩; refine qM4 (Kd.R_below (by (with_reducible repeat (first | apply Kd.RqA | apply Kd.RqN | apply Kd.RqD)); exact (Kd.R_mono (Kd.R_far (p := ⟨gb822, 1, none⟩) (Kd.R_far (p := ⟨gb822, 0, none⟩) (Kd.R_types HO_8.out BK822.out (by decide)) (fun _ hk => hk.2) (.int .i64 ((rd_T63 l0 x32_2).f0))) (fun _ hk => hk.2) (.slice A821_1 ((rd_T63 l0 x32_2).f1).length c821_1)) (fun _ h_ => h_.1))) hb) (kQB (g := gb814) (o := .cells #[.int .i64 a1_0, .slice A1_1 l1_1.length c1_1] 63 (0, 0)) (by (with_reducible repeat (first | refine kQN ?_ _ | refine kQD ?_ | refine kQA ?_ _)); refine kQR ?_ NB814_822.out _; (with_reducible repeat (first | refine kQN ?_ _ | refine kQD ?_ | refine kQA ?_ _)); refine kQR ?_ NB814_822.out _; (with_reducible repeat (first | refine kQN ?_ _ | refine kQD ?_ | refine kQA ?_ _)); exact BK814.out) hb) (kQB (g := gb822) (o := .cells #[.int .i64 ((rd_T63 l0 x32_2).f0), .slice A821_1 ((rd_T63 l0 x32_2).f1).length c821_1] 63 (0, 0)) (by (with_reducible repeat (first | refine kQN ?_ _ | refine kQD ?_ | refine kQA ?_ _)); refine kQP (cs := #[.int .i64 ((rd_T63 l0 x32_2).f0), .slice none 0 0]) ?_ 1 _ rfl; (with_reducible repeat (first | refine kQN ?_ _ | refine kQD ?_ | refine kQA ?_ _)); refine kQP (cs := #[.int .i64 0, .slice none 0 0]) ?_ 0 _ rfl; (with_reducible repeat (first | refine kQN ?_ _ | refine kQD ?_ | refine kQA ?_ _)); exact BK822.out) hb) (bQT tB hb) ?_; clear HO_8 BK814 BK822 HB; intro HO_8 BK814 BK822 HB; (try clear hb); (try clear hb2); (try clear hk); (try clear hi))))
    go_roundg k2
    case measure => have := HJ2.out; have := HK2.out; omega
    case rel => exact ⟨(x7_2), (x8_2), (wrap64 (x32_2 + 1)), tS, tS, H', ⟨by have := HJ2.out; have := HK2.out; omega⟩, ⟨tR HO_8.out⟩, ⟨tG BK814.out⟩, ⟨tB⟩⟩
   rw [if_pos c30] at H
   have c30b0 := beq_iff_eq.mpr c30
   have c30b1 := bne_eq_false_iff_eq.mpr c30
   clear c30
   by_cases c31 : x8_2.length < 17592186044416
   rotate_left
   ·rw [if_neg c31] at H
    exact absurd H (by simp)
   rw [if_pos c31] at H
   have LMc31 := Aq.mk c31
   clear c31
   obtain ⟨y827, hy827⟩ : ∃ y_ : List Int, y_ = (x8_2 ++ [x32_2]) := ⟨_, rfl⟩
   replace H : (impl_NearestSpaces.l0 k2 x7_2 y827 l0 (l0.length : Int) (wrap64 (x32_2 + 1)) a1_0 l1_1) = some (r1, r2, r3) := by first | (rw [hy827]; with_reducible exact H) | (have H2_ := (Option.bind_some _ _).symm.trans H; rw [hy827]; with_reducible exact H2_) | (have H2_ := (Option.bind_some _ _).symm.trans H; with_reducible exact H2_) | with_reducible exact H | (rw [hy827]; exact H) | exact H
   have Ny827 := Aq.mk hy827
   clear hy827
   replace H' := Aq.mk H
   clear H
   have p821 : 0 ≤ (x32_2 : Int) := of_decide_eq_true tA
   have q821 : x32_2 < (l0.length : Int) := of_decide_eq_true tA
   obtain ⟨ad821, A821_1, c821_1, e821, hx821_0, hx821_1, hl821_1, hi821_1⟩ := at_T63 HR0.out x32_2 p821 q821
   obtain rfl : ad817 = ad821 := (by injection e821)
   replace hx821_0 := (HB.out.cell (World.block_lt_of_cell? w _ hx821_0)).trans hx821_0
   replace hx821_1 := (HB.out.cell (World.block_lt_of_cell? w _ hx821_1)).trans hx821_1
   have HR821_1 := Aq.mk hi821_1
   have HC821_1 := Aq.mk hl821_1
   clear hi821_1 hl821_1
   replace p821 := eq_true p821
   replace q821 := eq_true q821
   go_wp2_with (first | ((with_reducible refine gQd (N := 10) rfl ?_); refine xQe ?hg (N := 10) ?hd (cs := #[.int .i64 0, .slice none 0 0]) (t := 63) ?hr ?_; (case hd => rfl); (case hg => rfl); (case hr => exact tH); intro gb822 hg w32 hbox hb; refine qM8 (Kd.R_below (tR HO_8.out) hb) (tQ BK814.out hb) (bQT tB hb) hbox (tZ w hg) (tZ w hg) ((by rw [hg]; exact Nat.ne_of_lt (blk_lt (g := gb814) (o := .cells #[.int .i64 a1_0, .slice A1_1 l1_1.length c1_1] 63 (0, 0)) (tG BK814.out)) : gb814 ≠ gb822)) ((by rw [hg]; exact Nat.ne_of_gt (blk_lt (g := gb814) (o := .cells #[.int .i64 a1_0, .slice A1_1 l1_1.length c1_1] 63 (0, 0)) (tG BK814.out)) : gb822 ≠ gb814)) ?_; clear HO_8 BK814 HB; intro HO_8 BK814 HB BK822 GW822 GE822 NB814_822 NB822_814; clear hb hbox hg; have hnb33 := NB822_814.out; have hnc33 := NB814_822.out; have hcz34_0 : w32.cell? ⟨gb822, 0, none⟩ = some (.int .i64 0) := (kQC BK822.out 0).trans rfl; have hcz34_1 : w32.cell? ⟨gb822, 1, none⟩ = some (.slice none 0 0) := (kQC BK822.out 1).trans rfl; have hfz34_0 := kQF BK822.out 0; have hfz34_1 := kQF BK822.out 1; have hcz35_0 : w32.cell? ⟨gb814, 0, none⟩ = some (.int .i64 a1_0) := (kQC BK814.out 0).trans rfl; have hcz35_1 : w32.cell? ⟨gb814, 1, none⟩ = some (.slice A1_1 l1_1.length c1_1) := (kQC BK814.out 1).trans rfl; have hfz35_0 := kQF BK814.out 0; have hfz35_1 := kQF BK814.out 1) | (go_at_call 60; (with_reducible refine (impl_Matrix_distance.calls k2 a1_0 _ _ l1_1 ((rd_T63 l0 x32_2).f0) _ _ ((rd_T63 l0 x32_2).f1) t823 _ ?s1 ?s2 ?s3 ?s4 A21.out).mono ?_); (case s1 => exact Kd.C_below HR1_1.out tB); (case s2 => exact HC1_1.out); (case s3 => exact Kd.C_below HR821_1.out tB); (case s4 => exact HC821_1.out); rintro e w36 ⟨rfl, hb⟩; refine qM4 (Kd.R_below (by (with_reducible repeat (first | apply Kd.RqA | apply Kd.RqN | apply Kd.RqD)); exact (Kd.R_mono (Kd.R_far (p := ⟨gb822, 1, none⟩) (Kd.R_far (p := ⟨gb822, 0, none⟩) (Kd.R_types HO_8.out BK822.out (by decide)) (fun _ hk => hk.2) (.int .i64 ((rd_T63 l0 x32_2).f0))) (fun _ hk => hk.2) (.slice A821_1 ((rd_T63 l0 x32_2).f1).length c821_1)) (fun _ h_ => h_.1))) hb) (kQB (g := gb814) (o := .cells #[.int .i64 a1_0, .slice A1_1 l1_1.length c1_1] 63 (0, 0)) (by (with_reducible repeat (first | refine kQN ?_ _ | refine kQD ?_ | refine kQA ?_ _)); refine kQR ?_ NB814_822.out _; (with_reducible repeat (first | refine kQN ?_ _ | refine kQD ?_ | refine kQA ?_ _)); refine kQR ?_ NB814_822.out _; (with_reducible repeat (first | refine kQN ?_ _ | refine kQD ?_ | refine kQA ?_ _)); exact BK814.out) hb) (kQB (g := gb822) (o := .cells #[.int .i64 ((rd_T63 l0 x32_2).f0), .slice A821_1 ((rd_T63 l0 x32_2).f1).length c821_1] 63 (0, 0)) (by (with_reducible repeat (first | refine kQN ?_ _ | refine kQD ?_ | refine kQA ?_ _)); refine kQP (cs := #[.int .i64 ((rd_T63 l0 x32_2).f0), .slice none 0 0]) ?_ 1 _ rfl; (with_reducible repeat (first | refine kQN ?_ _ | refine kQD ?_ | refine kQA ?_ _)); refine kQP (cs := #[.int .i64 0, .slice none 0 0]) ?_ 0 _ rfl; (with_reducible repeat (first | refine kQN ?_ _ | refine kQD ?_ | refine kQA ?_ _)); exact BK822.out) hb) (bQT tB hb) ?_; clear HO_8 BK814 BK822 HB; intro HO_8 BK814 BK822 HB; (try clear hb); (try clear hb2); (try clear hk); (try clear hi)) | ((with_reducible refine gate_builtin (b := .append) (xs := #[.tmp 47, .tmp 49]) rfl ?_); at_builtin; refine Kd.R_append (Kd.int .i64) (w0 := w) w.heap.size rfl (.tmp 47) (.tmp 49) 38 2 (.int .i64 0) 8 rfl Try.underlying38 info2 rfl (by decide) (by omega) u8 x8_2 x32_2 [.int .i64 x32_2] (fun _ => True) (fun _ => False) rfl rfl ?aP (fun _ hk => hk.elim) ?aF ?aO ?aB ?aS ?aL ?_; (case aP => exact rfl); (case aB => exact tB); (case aF => exact (fun _ _ => trivial)); (case aO => exact (tR HO_8.out)); (case aS => exact (bQZ tB)); (case aL => have := LMc31.out; omega); intro v828 w37 ho hb hg hat; rw [← Ny827.out] at ho; refine qM4 (blk_grown (g := gb814) (o := .cells #[.int .i64 a1_0, .slice A1_1 l1_1.length c1_1] 63 (0, 0)) (tG BK814.out) hg (Kd.R_ne HO_8.out BK814.out (by decide))) (blk_grown (g := gb822) (o := .cells #[.int .i64 ((rd_T63 l0 x32_2).f0), .slice A821_1 ((rd_T63 l0 x32_2).f1).length c821_1] 63 (0, 0)) (tG BK822.out) hg (Kd.R_ne HO_8.out BK822.out (by decide))) hb ho ?_; clear BK814 BK822 HB HO_8; intro BK814 BK822 HB HO829; clear ho hb hg hat))
   repeat (go_quiet (first | ((with_reducible refine gQd (N := 10) rfl ?_); refine xQe ?hg (N := 10) ?hd (cs := #[.int .i64 0, .slice none 0 0]) (t := 63) ?hr ?_; (case hd => rfl); (case hg => rfl); (case hr => exact tH); intro gb822 hg w32 hbox hb; refine qM8 (Kd.R_below (tR HO_8.out) hb) (tQ BK814.out hb) (bQT tB hb) hbox (tZ w hg) (tZ w hg) ((by rw [hg]; exact Nat.ne_of_lt (blk_lt (g := gb814) (o := .cells #[.int .i64 a1_0, .slice A1_1 l1_1.length c1_1] 63 (0, 0)) (tG BK814.out)) : gb814 ≠ gb822)) ((by rw [hg]; exact Nat.ne_of_gt (blk_lt (g := gb814) (o := .cells #[.int .i64 a1_0, .slice A1_1 l1_1.length c1_1] 63 (0, 0)) (tG BK814.out)) : gb822 ≠ gb814)) ?_; clear HO_8 BK814 HB; intro HO_8 BK814 HB BK822 GW822 GE822 NB814_822 NB822_814; clear hb hbox hg; have hnb33 := NB822_814.out; have hnc33 := NB814_822.out; have hcz34_0 : w32.cell? ⟨gb822, 0, none⟩ = some (.int .i64 0) := (kQC BK822.out 0).trans rfl; have hcz34_1 : w32.cell? ⟨gb822, 1, none⟩ = some (.slice none 0 0) := (kQC BK822.out 1).trans rfl; have hfz34_0 := kQF BK822.out 0; have hfz34_1 := kQF BK822.out 1; have hcz35_0 : w32.cell? ⟨gb814, 0, none⟩ = some (.int .i64 a1_0) := (kQC BK814.out 0).trans rfl; have hcz35_1 : w32.cell? ⟨gb814, 1, none⟩ = some (.slice A1_1 l1_1.length c1_1) := (kQC BK814.out 1).trans rfl; have hfz35_0 := kQF BK814.out 0; have hfz35_1 := kQF BK814.out 1) | (go_at_call 60; (with_reducible refine (impl_Matrix_distance.calls k2 a1_0 _ _ l1_1 ((rd_T63 l0 x32_2).f0) _ _ ((rd_T63 l0 x32_2).f1) t823 _ ?s1 ?s2 ?s3 ?s4 A21.out).mono ?_); (case s1 => exact Kd.C_below HR1_1.out tB); (case s2 => exact HC1_1.out); (case s3 => exact Kd.C_below HR821_1.out tB); (case s4 => exact HC821_1.out); rintro e w36 ⟨rfl, hb⟩; refine qM4 (Kd.R_below (by (with_reducible repeat (first | apply Kd.RqA | apply Kd.RqN | apply Kd.RqD)); exact (Kd.R_mono (Kd.R_far (p := ⟨gb822, 1, none⟩) (Kd.R_far (p := ⟨gb822, 0, none⟩) (Kd.R_types HO_8.out BK822.out (by decide)) (fun _ hk => hk.2) (.int .i64 ((rd_T63 l0 x32_2).f0))) (fun _ hk => hk.2) (.slice A821_1 ((rd_T63 l0 x32_2).f1).length c821_1)) (fun _ h_ => h_.1))) hb) (kQB (g := gb814) (o := .cells #[.int .i64 a1_0, .slice A1_1 l1_1.length c1_1] 63 (0, 0)) (by (with_reducible repeat (first | refine kQN ?_ _ | refine kQD ?_ | refine kQA ?_ _)); refine kQR ?_ NB814_822.out _; (with_reducible repeat (first | refine kQN ?_ _ | refine kQD ?_ | refine kQA ?_ _)); refine kQR ?_ NB814_822.out _; (with_reducible repeat (first | refine kQN ?_ _ | refine kQD ?_ | refine kQA ?_ _)); exact BK814.out) hb) (kQB (g := gb822) (o := .cells #[.int .i64 ((rd_T63 l0 x32_2).f0), .slice A821_1 ((rd_T63 l0 x32_2).f1).length c821_1] 63 (0, 0)) (by (with_reducible repeat (first | refine kQN ?_ _ | refine kQD ?_ | refine kQA ?_ _)); refine kQP (cs := #[.int .i64 ((rd_T63 l0 x32_2).f0), .slice none 0 0]) ?_ 1 _ rfl; (with_reducible repeat (first | refine kQN ?_ _ | refine kQD ?_ | refine kQA ?_ _)); refine kQP (cs := #[.int .i64 0, .slice none 0 0]) ?_ 0 _ rfl; (with_reducible repeat (first | refine kQN ?_ _ | refine kQD ?_ | refine kQA ?_ _)); exact BK822.out) hb) (bQT tB hb) ?_; clear HO_8 BK814 BK822 HB; intro HO_8 BK814 BK822 HB; (try clear hb); (try clear hb2); (try clear hk); (try clear hi)) | ((with_reducible refine gate_builtin (b := .append) (xs := #[.tmp 47, .tmp 49]) rfl ?_); at_builtin; refine Kd.R_append (Kd.int .i64) (w0 := w) w.heap.size rfl (.tmp 47) (.tmp 49) 38 2 (.int .i64 0) 8 rfl Try.underlying38 info2 rfl (by decide) (by omega) u8 x8_2 x32_2 [.int .i64 x32_2] (fun _ => True) (fun _ => False) rfl rfl ?aP (fun _ hk => hk.elim) ?aF ?aO ?aB ?aS ?aL ?_; (case aP => exact rfl); (case aB => exact tB); (case aF => exact (fun _ _ => trivial)); (case aO => exact (tR HO_8.out)); (case aS => exact (bQZ tB)); (case aL => have := LMc31.out; omega); intro v828 w37 ho hb hg hat; rw [← Ny827.out] at ho; refine qM4 (blk_grown (g := gb814) (o := .cells #[.int .i64 a1_0, .slice A1_1 l1_1.length c1_1] 63 (0, 0)) (tG BK814.out) hg (Kd.R_ne HO_8.out BK814.out (by decide))) (blk_grown (g := gb822) (o := .cells #[.int .i64 ((rd_T63 l0 x32_2).f0), .slice A821_1 ((rd_T63 l0 x32_2).f1).length c821_1] 63 (0, 0)) (tG BK822.out) hg (Kd.R_ne HO_8.out BK822.out (by decide))) hb ho ?_; clear BK814 BK822 HB HO_8; intro BK814 BK822 HB HO829; clear ho hb hg hat)); try go_wp2_with (first | ((with_reducible refine gQd (N := 10) rfl ?_); refine xQe ?hg (N := 10) ?hd (cs := #[.int .i64 0, .slice none 0 0]) (t := 63) ?hr ?_; (case hd => rfl); (case hg => rfl); (case hr => exact tH); intro gb822 hg w32 hbox hb; refine qM8 (Kd.R_below (tR HO_8.out) hb) (tQ BK814.out hb) (bQT tB hb) hbox (tZ w hg) (tZ w hg) ((by rw [hg]; exact Nat.ne_of_lt (blk_lt (g := gb814) (o := .cells #[.int .i64 a1_0, .slice A1_1 l1_1.length c1_1] 63 (0, 0)) (tG BK814.out)) : gb814 ≠ gb822)) ((by rw [hg]; exact Nat.ne_of_gt (blk_lt (g := gb814) (o := .cells #[.int .i64 a1_0, .slice A1_1 l1_1.length c1_1] 63 (0, 0)) (tG BK814.out)) : gb822 ≠ gb814)) ?_; clear HO_8 BK814 HB; intro HO_8 BK814 HB BK822 GW822 GE822 NB814_822 NB822_814; clear hb hbox hg; have hnb33 := NB822_814.out; have hnc33 := NB814_822.out; have hcz34_0 : w32.cell? ⟨gb822, 0, none⟩ = some (.int .i64 0) := (kQC BK822.out 0).trans rfl; have hcz34_1 : w32.cell? ⟨gb822, 1, none⟩ = some (.slice none 0 0) := (kQC BK822.out 1).trans rfl; have hfz34_0 := kQF BK822.out 0; have hfz34_1 := kQF BK822.out 1; have hcz35_0 : w32.cell? ⟨gb814, 0, none⟩ = some (.int .i64 a1_0) := (kQC BK814.out 0).trans rfl; have hcz35_1 : w32.cell? ⟨gb814, 1, none⟩ = some (.slice A1_1 l1_1.length c1_1) := (kQC BK814.out 1).trans rfl; have hfz35_0 := kQF BK814.out 0; have hfz35_1 := kQF BK814.out 1) | (go_at_call 60; (with_reducible refine (impl_Matrix_distance.calls k2 a1_0 _ _ l1_1 ((rd_T63 l0 x32_2).f0) _ _ ((rd_T63 l0 x32_2).f1) t823 _ ?s1 ?s2 ?s3 ?s4 A21.out).mono ?_); (case s1 => exact Kd.C_below HR1_1.out tB); (case s2 => exact HC1_1.out); (case s3 => exact Kd.C_below HR821_1.out tB); (case s4 => exact HC821_1.out); rintro e w36 ⟨rfl, hb⟩; refine qM4 (Kd.R_below (by (with_reducible repeat (first | apply Kd.RqA | apply Kd.RqN | apply Kd.RqD)); exact (Kd.R_mono (Kd.R_far (p := ⟨gb822, 1, none⟩) (Kd.R_far (p := ⟨gb822, 0, none⟩) (Kd.R_types HO_8.out BK822.out (by decide)) (fun _ hk => hk.2) (.int .i64 ((rd_T63 l0 x32_2).f0))) (fun _ hk => hk.2) (.slice A821_1 ((rd_T63 l0 x32_2).f1).length c821_1)) (fun _ h_ => h_.1))) hb) (kQB (g := gb814) (o := .cells #[.int .i64 a1_0, .slice A1_1 l1_1.length c1_1] 63 (0, 0)) (by (with_reducible repeat (first | refine kQN ?_ _ | refine kQD ?_ | refine kQA ?_ _)); refine kQR ?_ NB814_822.out _; (with_reducible repeat (first | refine kQN ?_ _ | refine kQD ?_ | refine kQA ?_ _)); refine kQR ?_ NB814_822.out _; (with_reducible repeat (first | refine kQN ?_ _ | refine kQD ?_ | refine kQA ?_ _)); exact BK814.out) hb) (kQB (g := gb822) (o := .cells #[.int .i64 ((rd_T63 l0 x32_2).f0), .slice A821_1 ((rd_T63 l0 x32_2).f1).length c821_1] 63 (0, 0)) (by (with_reducible repeat (first | refine kQN ?_ _ | refine kQD ?_ | refine kQA ?_ _)); refine kQP (cs := #[.int .i64 ((rd_T63 l0 x32_2).f0), .slice none 0 0]) ?_ 1 _ rfl; (with_reducible repeat (first | refine kQN ?_ _ | refine kQD ?_ | refine kQA ?_ _)); refine kQP (cs := #[.int .i64 0, .slice none 0 0]) ?_ 0 _ rfl; (with_reducible repeat (first | refine kQN ?_ _ | refine kQD ?_ | refine kQA ?_ _)); exact BK822.out) hb) (bQT tB hb) ?_; clear HO_8 BK814 BK822 HB; intro HO_8 BK814 BK822 HB; (try clear hb); (try clear hb2); (try clear hk); (try clear hi)) | ((with_reducible refine gate_builtin (b := .append) (xs := #[.tmp 47, .tmp 49]) rfl ?_); at_builtin; refine Kd.R_append (Kd.int .i64) (w0 := w) w.heap.size rfl (.tmp 47) (.tmp 49) 38 2 (.int .i64 0) 8 rfl Try.underlying38 info2 rfl (by decide) (by omega) u8 x8_2 x32_2 [.int .i64 x32_2] (fun _ => True) (fun _ => False) rfl rfl ?aP (fun _ hk => hk.elim) ?aF ?aO ?aB ?aS ?aL ?_; (case aP => exact rfl); (case aB => exact tB); (case aF => exact (fun _ _ => trivial)); (case aO => exact (tR HO_8.out)); (case aS => exact (bQZ tB)); (case aL => have := LMc31.out; omega); intro v828 w37 ho hb hg hat; rw [← Ny827.out] at ho; refine qM4 (blk_grown (g := gb814) (o := .cells #[.int .i64 a1_0, .slice A1_1 l1_1.length c1_1] 63 (0, 0)) (tG BK814.out) hg (Kd.R_ne HO_8.out BK814.out (by decide))) (blk_grown (g := gb822) (o := .cells #[.int .i64 ((rd_T63 l0 x32_2).f0), .slice A821_1 ((rd_T63 l0 x32_2).f1).length c821_1] 63 (0, 0)) (tG BK822.out) hg (Kd.R_ne HO_8.out BK822.out (by decide))) hb ho ?_; clear BK814 BK822 HB HO_8; intro BK814 BK822 HB HO829; clear ho hb hg hat)))
   go_roundg k2
   case measure => have := HJ2.out; have := HK2.out; omega
   case rel => exact ⟨(x7_2), (y827), (wrap64 (x32_2 + 1)), tS, tS, H', ⟨by have := HJ2.out; have := HK2.out; omega⟩, ⟨tR HO829.out⟩, ⟨tG BK814.out⟩, ⟨tB⟩⟩
end Go.Proofs.Ytbalkaphibnpcaa.P
