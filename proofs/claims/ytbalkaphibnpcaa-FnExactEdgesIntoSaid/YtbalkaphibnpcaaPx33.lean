/- Functions of the program and what they tell, as the printing program wrote it. -/
import Derived.Test.YtbalkaphibnpcaaPx0
import Derived.Test.YtbalkaphibnpcaaPx1
import Derived.Test.YtbalkaphibnpcaaPx3
namespace Go.Proofs.Ytbalkaphibnpcaa.P
open Go.Shelf Go.RowKit Go.Proofs.YtbalkaphibnpcaaW.PrintWords Go.Proofs.YtbalkaphibnpcaaW.PrintLast Go.Proofs.YtbalkaphibnpcaaW.PrintMore
attribute [local go_sem] max2_int min2_int max_two min_two max_three min_three max_four min_four
set_option linter.unusedVariables false
set_option linter.unusedSimpArgs false
set_option maxHeartbeats 8000000
set_option maxRecDepth 100000
def impl_Net_into.l0 : Nat → Int → List Int → List (List Int) → Int → Int → Option (List Int)
  | 0, _, _, _, _, _ => none
  | k + 1, x1, x5, x10, x11, x12 => if x12 < x11 then (if 0 ≤ x12 then (if x12 < (x10.length : Int) then (if 1 < ((rd_L1 x10 x12).length : Int) then (if (rd (rd_L1 x10 x12) 1) = x1 then (if x5.length < 17592186044416 then (impl_Net_into.l0 k x1 (x5 ++ [x12]) x10 x11 (wrap64 (x12 + 1))) else (none)) else (impl_Net_into.l0 k x1 x5 x10 x11 (wrap64 (x12 + 1)))) else (none)) else (none)) else (none)) else (some x5)
def impl_Net_into.f (k : Nat) (a0_0 : Int) (a0_1 : Int) (a0_2 : Int) (a0_3 : Int) (l0_4 : List (List Int)) (l0_5 : List (List Int)) (a1 : Int) : Option (List Int) := impl_Net_into.l0 k a1 (([] : List Int)) l0_4 (l0_4.length : Int) 0
theorem impl_Net_into.mono_l : ∀ k, (∀ y0 y1 y2 y3 y4, LeO (impl_Net_into.l0 k y0 y1 y2 y3 y4) (impl_Net_into.l0 (k + 1) y0 y1 y2 y3 y4))
 | 0 => fun _ _ _ _ _ r h => by simp [impl_Net_into.l0] at h
 | k + 1 => by
  have ih0 := impl_Net_into.mono_l k
  ·intro y0 y1 y2 y3 y4
   unfold impl_Net_into.l0
   repeat' first
   | (with_reducible first | apply ih0 | exact LeO.refl _ | exact LeO.none _ | refine LeO.ite ?_ ?_ | refine LeO.bind ?_ (fun _ => ?_))
   | exact LeO.none _
   | refine LeO.ite ?_ ?_
   | refine LeO.bind ?_ (fun _ => ?_)
theorem impl_Net_into.mono : ∀ a0 a1 a2 a3 a4 a5 a6 k, LeO (impl_Net_into.f k a0 a1 a2 a3 a4 a5 a6) (impl_Net_into.f (k + 1) a0 a1 a2 a3 a4 a5 a6) := by
 intro a0 a1 a2 a3 a4 a5 a6 k
 have ih0 := impl_Net_into.mono_l k
 unfold impl_Net_into.f
 repeat' first
  | (with_reducible first | apply ih0 | exact LeO.refl _ | exact LeO.none _ | refine LeO.ite ?_ ?_ | refine LeO.bind ?_ (fun _ => ?_))
  | exact LeO.none _
  | refine LeO.ite ?_ ?_
  | refine LeO.bind ?_ (fun _ => ?_)
theorem impl_Net_into.calls (k : Nat) (a0_0 : Int) (a0_1 : Int) (a0_2 : Int) (a0_3 : Int) (A0_4 : Option Addr) (c0_4 : Nat) (l0_4 : List (List Int)) (A0_5 : Option Addr) (c0_5 : Nat) (l0_5 : List (List Int)) (a1 : Int) (r : List Int) (w : World) (hr0_4 : Kd.C (Kd.slice 2 (Kd.int .i64)) w A0_4 l0_4.length l0_4) (hc0_4 : l0_4.length ≤ c0_4) (hr0_5 : Kd.C (Kd.slice 2 (Kd.int .i64)) w A0_5 l0_5.length l0_5) (hc0_5 : l0_5.length ≤ c0_5) (h : impl_Net_into.f k a0_0 a0_1 a0_2 a0_3 l0_4 l0_5 a1 = some r) :
 Calls Try.prog 51 #[.agg #[.int .i64 a0_0, .int .i64 a0_1, .int .i64 a0_2, .int .i64 a0_3, .slice A0_4 l0_4.length c0_4, .slice A0_5 l0_5.length c0_5], .int .i64 a1] w fun e w' => ∃ v0_ : Value, e = .returned (v0_) ∧ Kd.R (Kd.int .i64) 2 w' w.heap.size (fun _ => True) v0_ r ∧ Below w.heap.size w w' := by
 have hu42 := Try.underlying42
 have HR0_4 := Aq.mk hr0_4
 have HC0_4 := Aq.mk hc0_4
 clear hr0_4 hc0_4
 have HR0_5 := Aq.mk hr0_5
 have HC0_5 := Aq.mk hc0_5
 clear hr0_5 hc0_5
 have HB := Aq.mk (Below.refl w.heap.size w)
 have H : (impl_Net_into.l0 k a1 (([] : List Int)) l0_4 (l0_4.length : Int) 0) = some r := h
 clear h
 obtain ⟨y416, hy416⟩ : ∃ y_ : List Int, y_ = (([] : List Int)) := ⟨_, rfl⟩
 replace H : (impl_Net_into.l0 k a1 y416 l0_4 (l0_4.length : Int) 0) = some r := by first | (rw [hy416]; with_reducible exact H) | (have H2_ := (Option.bind_some _ _).symm.trans H; rw [hy416]; with_reducible exact H2_) | (have H2_ := (Option.bind_some _ _).symm.trans H; with_reducible exact H2_) | with_reducible exact H | (rw [hy416]; exact H) | exact H
 have Ny416 := Aq.mk hy416
 clear hy416
 replace H' := Aq.mk H
 clear H
 go_enter Try.func51, Try.ntmps51
 go_wp2_with (first | ((with_reducible refine gQd (N := 2) rfl ?_); refine xQe ?hg (N := 2) ?hd (cs := #[.int .i64 a0_0, .int .i64 a0_1, .int .i64 a0_2, .int .i64 a0_3, .slice A0_4 l0_4.length c0_4, .slice A0_5 l0_5.length c0_5]) (t := 42) ?hr ?_; (case hd => rfl); (case hg => rfl); (case hr => exact tH); intro gb415 hg w3 hbox hb; refine qM4 (bQT tB hb) hbox (tZ w hg) (tZ w hg) ?_; clear HB; intro HB BK415 GW415 GE415; clear hb hbox hg) | ((with_reducible refine gQd (N := 8) rfl ?_); refine Kd.R_lit (Kd.int .i64) _ 2 ?hg (N := 8) ?hd (xs := ([] : List Int)) (inner := []) (ok := fun _ => True) (okp := fun _ => True) ?hr ?hp (fun _ hk => hk) trivial (Below.refl _ _) (Nat.le_refl _) (by simp) ?_; (case hd => rfl); (case hg => rfl); (case hr => exact tH); (case hp => exact (Reps.none _ _)); intro v417 w4 ho5 hb hg_ hnew_; clear hg_ hnew_; (first | rw [← Ny416.out] at ho5 | (simp only [Int.reduceToNat] at ho5; rw [← Ny416.out] at ho5)); refine qM3 (Kd.R_lower ho5 (bQZ tB)) (tQ BK415.out hb) (bQT tB hb) ?_; clear BK415 HB; intro HO418 BK415 HB; clear hb ho5; have hcz6_0 : w4.cell? ⟨gb415, 0, none⟩ = some (.int .i64 a0_0) := (kQC BK415.out 0).trans rfl; have hcz6_1 : w4.cell? ⟨gb415, 1, none⟩ = some (.int .i64 a0_1) := (kQC BK415.out 1).trans rfl; have hcz6_2 : w4.cell? ⟨gb415, 2, none⟩ = some (.int .i64 a0_2) := (kQC BK415.out 2).trans rfl; have hcz6_3 : w4.cell? ⟨gb415, 3, none⟩ = some (.int .i64 a0_3) := (kQC BK415.out 3).trans rfl; have hcz6_4 : w4.cell? ⟨gb415, 4, none⟩ = some (.slice A0_4 l0_4.length c0_4) := (kQC BK415.out 4).trans rfl; have hcz6_5 : w4.cell? ⟨gb415, 5, none⟩ = some (.slice A0_5 l0_5.length c0_5) := (kQC BK415.out 5).trans rfl; have hfz6_0 := kQF BK415.out 0; have hfz6_1 := kQF BK415.out 1; have hfz6_2 := kQF BK415.out 2; have hfz6_3 := kQF BK415.out 3; have hfz6_4 := kQF BK415.out 4; have hfz6_5 := kQF BK415.out 5))
 go_loopg [5, 12] k (fun kq v5 v12 w' => ∃ (x5_1 : List Int) (x12_1 : Int), v12 = .int .i64 x12_1 ∧ Aq (impl_Net_into.l0 kq a1 x5_1 l0_4 (l0_4.length : Int) x12_1 = some r) ∧ Aq (kq ≤ k) ∧ Aq (Kd.R (Kd.int .i64) 2 w' w.heap.size (fun _ => True) v5 x5_1) ∧ Aq (w'.heap[gb415]? = some (.cells #[.int .i64 a0_0, .int .i64 a0_1, .int .i64 a0_2, .int .i64 a0_3, (.slice A0_4 l0_4.length c0_4), (.slice A0_5 l0_5.length c0_5)] 42 (0, 0))) ∧ Aq (Below w.heap.size w w'))
 case atStart => exact ⟨(y416), (0), tS, H', ⟨Nat.le_refl _⟩, ⟨tR HO418.out⟩, ⟨tG BK415.out⟩, ⟨tB⟩⟩
 clear H'
 try clear hcz6_0
 try clear hcz6_1
 try clear hcz6_2
 try clear hcz6_3
 try clear hcz6_4
 try clear hcz6_5
 try clear hfz6_0
 try clear hfz6_1
 try clear hfz6_2
 try clear hfz6_3
 try clear hfz6_4
 try clear hfz6_5
 obtain ⟨x5_1, x12_1, rfl, HA, HK1, HO_5, BK415, HB⟩ := hrel
 cases gk with
 | zero => exact absurd HA.out (by simp [impl_Net_into.l0])
 | succ k1 =>
  have H := HA.out
  clear HA
  simp only [impl_Net_into.l0] at H
  by_cases c7 : x12_1 < (l0_4.length : Int)
  rotate_left
  ·rw [if_neg c7] at H
   have c7b0 := decide_eq_false c7
   clear c7
   obtain rfl := Option.some.inj H
   go_wp2
   go_ret
   exact ⟨_, tE, tR HO_5.out, tB⟩
  rw [if_pos c7] at H
  have c7b0 := decide_eq_true c7
  clear c7
  by_cases c8 : 0 ≤ x12_1
  rotate_left
  ·rw [if_neg c8] at H
   exact absurd H (by simp)
  rw [if_pos c8] at H
  have c8b0 := decide_eq_true c8
  clear c8
  by_cases c9 : x12_1 < (l0_4.length : Int)
  rotate_left
  ·rw [if_neg c9] at H
   exact absurd H (by simp)
  rw [if_pos c9] at H
  have c9b0 := decide_eq_true c9
  clear c9
  by_cases c10 : 1 < ((rd_L1 l0_4 x12_1).length : Int)
  rotate_left
  ·rw [if_neg c10] at H
   exact absurd H (by simp)
  rw [if_pos c10] at H
  have c10b0 := decide_eq_true c10
  have c10b1 : decide (1 < (rd_L1 l0_4 x12_1).length) = true := decide_eq_true (by omega)
  clear c10
  by_cases c11 : (rd (rd_L1 l0_4 x12_1) 1) = a1
  rotate_left
  ·rw [if_neg c11] at H
   have c11b0 := beq_eq_false_iff_ne.mpr c11
   have c11b1 := bne_iff_ne.mpr c11
   replace H' := Aq.mk H
   clear H
   have p419 : 0 ≤ (x12_1 : Int) := of_decide_eq_true tA
   have q419 : x12_1 < (l0_4.length : Int) := of_decide_eq_true tA
   obtain ⟨ad419, A419_0, c419_0, e419, hx419_0, hl419_0, hi419_0⟩ := at_L1 HR0_4.out x12_1 p419 q419
   cases e419
   replace hx419_0 := (HB.out.cell (World.block_lt_of_cell? w _ hx419_0)).trans hx419_0
   have HR419_0 := Aq.mk hi419_0
   have HC419_0 := Aq.mk hl419_0
   clear hi419_0 hl419_0
   replace p419 := eq_true p419
   replace q419 := eq_true q419
   have p420 : 0 ≤ (1 : Int) := (by omega)
   have q420 : 1 < ((rd_L1 l0_4 x12_1).length : Int) := of_decide_eq_true tA
   obtain ⟨ad420, e420, hx420_0⟩ := Kd.at_int HR419_0.out 1 p420 q420
   cases e420
   (try simp only [show (1 : Int).toNat = 1 from rfl, Nat.reduceMul, Nat.reduceEqDiff, Go.Addr.add, ↓reduceIte] at hx420_0)
   have qi420 : (1 < (rd_L1 l0_4 x12_1).length) = True := eq_true (by omega)
   (try rw [show ((1 : Int)).toNat = 1 from rfl] at hx420_0)
   replace hx420_0 := (HB.out.cell (World.block_lt_of_cell? w _ hx420_0)).trans hx420_0
   replace p420 := eq_true p420
   replace q420 := eq_true q420
   go_wp2
   go_roundg k1
   case measure => have := HK1.out; omega
   case rel => exact ⟨(x5_1), (wrap64 (x12_1 + 1)), tS, H', ⟨by have := HK1.out; omega⟩, ⟨tR HO_5.out⟩, ⟨tG BK415.out⟩, ⟨tB⟩⟩
  rw [if_pos c11] at H
  have c11b0 := beq_iff_eq.mpr c11
  have c11b1 := bne_eq_false_iff_eq.mpr c11
  clear c11
  by_cases c12 : x5_1.length < 17592186044416
  rotate_left
  ·rw [if_neg c12] at H
   exact absurd H (by simp)
  rw [if_pos c12] at H
  have LMc12 := Aq.mk c12
  clear c12
  obtain ⟨y421, hy421⟩ : ∃ y_ : List Int, y_ = (x5_1 ++ [x12_1]) := ⟨_, rfl⟩
  replace H : (impl_Net_into.l0 k1 a1 y421 l0_4 (l0_4.length : Int) (wrap64 (x12_1 + 1))) = some r := by first | (rw [hy421]; with_reducible exact H) | (have H2_ := (Option.bind_some _ _).symm.trans H; rw [hy421]; with_reducible exact H2_) | (have H2_ := (Option.bind_some _ _).symm.trans H; with_reducible exact H2_) | with_reducible exact H | (rw [hy421]; exact H) | exact H
  have Ny421 := Aq.mk hy421
  clear hy421
  replace H' := Aq.mk H
  clear H
  have p419 : 0 ≤ (x12_1 : Int) := of_decide_eq_true tA
  have q419 : x12_1 < (l0_4.length : Int) := of_decide_eq_true tA
  obtain ⟨ad419, A419_0, c419_0, e419, hx419_0, hl419_0, hi419_0⟩ := at_L1 HR0_4.out x12_1 p419 q419
  cases e419
  replace hx419_0 := (HB.out.cell (World.block_lt_of_cell? w _ hx419_0)).trans hx419_0
  have HR419_0 := Aq.mk hi419_0
  have HC419_0 := Aq.mk hl419_0
  clear hi419_0 hl419_0
  replace p419 := eq_true p419
  replace q419 := eq_true q419
  have p420 : 0 ≤ (1 : Int) := (by omega)
  have q420 : 1 < ((rd_L1 l0_4 x12_1).length : Int) := of_decide_eq_true tA
  obtain ⟨ad420, e420, hx420_0⟩ := Kd.at_int HR419_0.out 1 p420 q420
  cases e420
  (try simp only [show (1 : Int).toNat = 1 from rfl, Nat.reduceMul, Nat.reduceEqDiff, Go.Addr.add, ↓reduceIte] at hx420_0)
  have qi420 : (1 < (rd_L1 l0_4 x12_1).length) = True := eq_true (by omega)
  (try rw [show ((1 : Int)).toNat = 1 from rfl] at hx420_0)
  replace hx420_0 := (HB.out.cell (World.block_lt_of_cell? w _ hx420_0)).trans hx420_0
  replace p420 := eq_true p420
  replace q420 := eq_true q420
  go_wp2_with (first | ((with_reducible refine gate_builtin (b := .append) (xs := #[.tmp 22, .tmp 24]) rfl ?_); at_builtin; refine Kd.R_append (Kd.int .i64) (w0 := w) w.heap.size rfl (.tmp 22) (.tmp 24) 38 2 (.int .i64 0) 8 rfl Try.underlying38 info2 rfl (by decide) (by omega) u5 x5_1 x12_1 [.int .i64 x12_1] (fun _ => True) (fun _ => False) rfl rfl ?aP (fun _ hk => hk.elim) ?aF ?aO ?aB ?aS ?aL ?_; (case aP => exact rfl); (case aB => exact tB); (case aF => exact (fun _ _ => trivial)); (case aO => exact (tR HO_5.out)); (case aS => exact (bQZ tB)); (case aL => have := LMc12.out; omega); intro v422 w13 ho hb hg hat; rw [← Ny421.out] at ho; refine qM3 (blk_grown (g := gb415) (o := .cells #[.int .i64 a0_0, .int .i64 a0_1, .int .i64 a0_2, .int .i64 a0_3, .slice (some ad419) l0_4.length c0_4, .slice A0_5 l0_5.length c0_5] 42 (0, 0)) (tG BK415.out) hg (Kd.R_ne HO_5.out BK415.out (by decide))) hb ho ?_; clear BK415 HB HO_5; intro BK415 HB HO423; clear ho hb hg hat))
  go_roundg k1
  case measure => have := HK1.out; omega
  case rel => exact ⟨(y421), (wrap64 (x12_1 + 1)), tS, H', ⟨by have := HK1.out; omega⟩, ⟨tR HO423.out⟩, ⟨tG BK415.out⟩, ⟨tB⟩⟩
def impl_always.f  : Option (Bool) := some true
theorem impl_always.calls  (r : Bool) (w : World) (h : impl_always.f  = some r) :
 Calls Try.prog 50 #[] w fun e w' => e = .returned (.bool r) ∧ Dq w w' := by
 have H : (some true) = some r := h
 clear h
 obtain rfl := Option.some.inj H
 go_enter Try.func50, Try.ntmps50
 go_wp2
 go_ret
 exact ⟨tS, tD⟩
def impl_Net_isNode.f (a0_0 : Int) (a0_1 : Int) (a0_2 : Int) (a0_3 : Int) (l0_4 : List (List Int)) (l0_5 : List (List Int)) (a1 : Int) : Option (Bool) := (impl_within.f a1 0 (wrap64 (a0_2 - 1))).bind fun t425 => (some t425)
theorem impl_Net_isNode.calls (a0_0 : Int) (a0_1 : Int) (a0_2 : Int) (a0_3 : Int) (A0_4 : Option Addr) (c0_4 : Nat) (l0_4 : List (List Int)) (A0_5 : Option Addr) (c0_5 : Nat) (l0_5 : List (List Int)) (a1 : Int) (r : Bool) (w : World) (hr0_4 : Kd.C (Kd.slice 2 (Kd.int .i64)) w A0_4 l0_4.length l0_4) (hc0_4 : l0_4.length ≤ c0_4) (hr0_5 : Kd.C (Kd.slice 2 (Kd.int .i64)) w A0_5 l0_5.length l0_5) (hc0_5 : l0_5.length ≤ c0_5) (h : impl_Net_isNode.f a0_0 a0_1 a0_2 a0_3 l0_4 l0_5 a1 = some r) :
 Calls Try.prog 80 #[.agg #[.int .i64 a0_0, .int .i64 a0_1, .int .i64 a0_2, .int .i64 a0_3, .slice A0_4 l0_4.length c0_4, .slice A0_5 l0_5.length c0_5], .int .i64 a1] w fun e w' => e = .returned (.bool r) ∧ Below w.heap.size w w' := by
 have hu42 := Try.underlying42
 have HR0_4 := Aq.mk hr0_4
 have HC0_4 := Aq.mk hc0_4
 clear hr0_4 hc0_4
 have HR0_5 := Aq.mk hr0_5
 have HC0_5 := Aq.mk hc0_5
 clear hr0_5 hc0_5
 have HB := Aq.mk (Below.refl w.heap.size w)
 have H : ((impl_within.f a1 0 (wrap64 (a0_2 - 1))).bind fun t425 => (some t425)) = some r := h
 clear h
 obtain ⟨t425, A3, H⟩ := qBd H
 obtain rfl := Option.some.inj H
 go_enter Try.func80, Try.ntmps80
 go_wp2_with (first | ((with_reducible refine gQd (N := 2) rfl ?_); refine xQe ?hg (N := 2) ?hd (cs := #[.int .i64 a0_0, .int .i64 a0_1, .int .i64 a0_2, .int .i64 a0_3, .slice A0_4 l0_4.length c0_4, .slice A0_5 l0_5.length c0_5]) (t := 42) ?hr ?_; (case hd => rfl); (case hg => rfl); (case hr => exact tH); intro gb424 hg w4 hbox hb; refine qM4 (bQT tB hb) hbox (tZ w hg) (tZ w hg) ?_; clear HB; intro HB BK424 GW424 GE424; clear hb hbox hg; have hcz5_0 : w4.cell? ⟨gb424, 0, none⟩ = some (.int .i64 a0_0) := (kQC BK424.out 0).trans rfl; have hcz5_1 : w4.cell? ⟨gb424, 1, none⟩ = some (.int .i64 a0_1) := (kQC BK424.out 1).trans rfl; have hcz5_2 : w4.cell? ⟨gb424, 2, none⟩ = some (.int .i64 a0_2) := (kQC BK424.out 2).trans rfl; have hcz5_3 : w4.cell? ⟨gb424, 3, none⟩ = some (.int .i64 a0_3) := (kQC BK424.out 3).trans rfl; have hcz5_4 : w4.cell? ⟨gb424, 4, none⟩ = some (.slice A0_4 l0_4.length c0_4) := (kQC BK424.out 4).trans rfl; have hcz5_5 : w4.cell? ⟨gb424, 5, none⟩ = some (.slice A0_5 l0_5.length c0_5) := (kQC BK424.out 5).trans rfl; have hfz5_0 := kQF BK424.out 0; have hfz5_1 := kQF BK424.out 1; have hfz5_2 := kQF BK424.out 2; have hfz5_3 := kQF BK424.out 3; have hfz5_4 := kQF BK424.out 4; have hfz5_5 := kQF BK424.out 5) | ((with_reducible refine gQc (f := 68) rfl ?_); refine goesL_ (some 9) rfl rfl Try.func68 (by kernel_rfl) rfl #[.int .i64 a1, .int .i64 0, .int .i64 (wrap64 (a0_2 - 1))] rfl tL ?_; (with_reducible refine (impl_within.calls a1 0 (wrap64 (a0_2 - 1)) t425 _ A3.out).mono ?_); rintro e w' ⟨rfl, ⟨nd, rfl⟩⟩; refine ⟨_, rfl, ?_⟩))
 go_ret
 exact ⟨tE, tB⟩
def impl_Net_has.f (k : Nat) (a0_0 : Int) (a0_1 : Int) (a0_2 : Int) (a0_3 : Int) (l0_4 : List (List Int)) (l0_5 : List (List Int)) (a1 : Int) : Option (Int) := if a1 = 0 then (some a0_3) else ((impl_Net_into.f k a0_0 a0_1 a0_2 a0_3 l0_4 l0_5 a1).bind fun t427 => ((impl_size_int64_71.f t427).bind fun t430 => (some t430)))
theorem impl_Net_has.mono : ∀ a0 a1 a2 a3 a4 a5 a6 k, LeO (impl_Net_has.f k a0 a1 a2 a3 a4 a5 a6) (impl_Net_has.f (k + 1) a0 a1 a2 a3 a4 a5 a6) := by
 intro a0 a1 a2 a3 a4 a5 a6 k
 unfold impl_Net_has.f
 repeat' first
  | (with_reducible first | apply impl_Net_into.mono | exact LeO.refl _ | exact LeO.none _ | refine LeO.ite ?_ ?_ | refine LeO.bind ?_ (fun _ => ?_))
  | exact LeO.none _
  | refine LeO.ite ?_ ?_
  | refine LeO.bind ?_ (fun _ => ?_)
theorem impl_Net_has.calls (k : Nat) (a0_0 : Int) (a0_1 : Int) (a0_2 : Int) (a0_3 : Int) (A0_4 : Option Addr) (c0_4 : Nat) (l0_4 : List (List Int)) (A0_5 : Option Addr) (c0_5 : Nat) (l0_5 : List (List Int)) (a1 : Int) (r : Int) (w : World) (hr0_4 : Kd.C (Kd.slice 2 (Kd.int .i64)) w A0_4 l0_4.length l0_4) (hc0_4 : l0_4.length ≤ c0_4) (hr0_5 : Kd.C (Kd.slice 2 (Kd.int .i64)) w A0_5 l0_5.length l0_5) (hc0_5 : l0_5.length ≤ c0_5) (h : impl_Net_has.f k a0_0 a0_1 a0_2 a0_3 l0_4 l0_5 a1 = some r) :
 Calls Try.prog 109 #[.agg #[.int .i64 a0_0, .int .i64 a0_1, .int .i64 a0_2, .int .i64 a0_3, .slice A0_4 l0_4.length c0_4, .slice A0_5 l0_5.length c0_5], .int .i64 a1] w fun e w' => e = .returned (.int .i64 r) ∧ Below w.heap.size w w' := by
 have hu42 := Try.underlying42
 have HR0_4 := Aq.mk hr0_4
 have HC0_4 := Aq.mk hc0_4
 clear hr0_4 hc0_4
 have HR0_5 := Aq.mk hr0_5
 have HC0_5 := Aq.mk hc0_5
 clear hr0_5 hc0_5
 have HB := Aq.mk (Below.refl w.heap.size w)
 have H : (if a1 = 0 then (some a0_3) else ((impl_Net_into.f k a0_0 a0_1 a0_2 a0_3 l0_4 l0_5 a1).bind fun t427 => ((impl_size_int64_71.f t427).bind fun t430 => (some t430)))) = some r := h
 clear h
 by_cases c3 : a1 = 0
 ·rw [if_pos c3] at H
  have c3b0 := beq_iff_eq.mpr c3
  have c3b1 := bne_eq_false_iff_eq.mpr c3
  clear c3
  obtain rfl := Option.some.inj H
  go_enter Try.func109, Try.ntmps109
  go_wp2_with (first | ((with_reducible refine gQd (N := 2) rfl ?_); refine xQe ?hg (N := 2) ?hd (cs := #[.int .i64 a0_0, .int .i64 a0_1, .int .i64 a0_2, .int .i64 a0_3, .slice A0_4 l0_4.length c0_4, .slice A0_5 l0_5.length c0_5]) (t := 42) ?hr ?_; (case hd => rfl); (case hg => rfl); (case hr => exact tH); intro gb426 hg w4 hbox hb; refine qM4 (bQT tB hb) hbox (tZ w hg) (tZ w hg) ?_; clear HB; intro HB BK426 GW426 GE426; clear hb hbox hg; have hcz5_0 : w4.cell? ⟨gb426, 0, none⟩ = some (.int .i64 a0_0) := (kQC BK426.out 0).trans rfl; have hcz5_1 : w4.cell? ⟨gb426, 1, none⟩ = some (.int .i64 a0_1) := (kQC BK426.out 1).trans rfl; have hcz5_2 : w4.cell? ⟨gb426, 2, none⟩ = some (.int .i64 a0_2) := (kQC BK426.out 2).trans rfl; have hcz5_3 : w4.cell? ⟨gb426, 3, none⟩ = some (.int .i64 a0_3) := (kQC BK426.out 3).trans rfl; have hcz5_4 : w4.cell? ⟨gb426, 4, none⟩ = some (.slice A0_4 l0_4.length c0_4) := (kQC BK426.out 4).trans rfl; have hcz5_5 : w4.cell? ⟨gb426, 5, none⟩ = some (.slice A0_5 l0_5.length c0_5) := (kQC BK426.out 5).trans rfl; have hfz5_0 := kQF BK426.out 0; have hfz5_1 := kQF BK426.out 1; have hfz5_2 := kQF BK426.out 2; have hfz5_3 := kQF BK426.out 3; have hfz5_4 := kQF BK426.out 4; have hfz5_5 := kQF BK426.out 5))
  go_ret
  exact ⟨tE, tB⟩
 rw [if_neg c3] at H
 have c3b0 := beq_eq_false_iff_ne.mpr c3
 have c3b1 := bne_iff_ne.mpr c3
 obtain ⟨t427, A6, H⟩ := qBd H
 obtain ⟨t430, A7, H⟩ := qBd H
 obtain rfl := Option.some.inj H
 go_enter Try.func109, Try.ntmps109
 go_wp2_with (first | ((with_reducible refine gQd (N := 2) rfl ?_); refine xQe ?hg (N := 2) ?hd (cs := #[.int .i64 a0_0, .int .i64 a0_1, .int .i64 a0_2, .int .i64 a0_3, .slice A0_4 l0_4.length c0_4, .slice A0_5 l0_5.length c0_5]) (t := 42) ?hr ?_; (case hd => rfl); (case hg => rfl); (case hr => exact tH); intro gb426 hg w8 hbox hb; refine qM4 (bQT tB hb) hbox (tZ w hg) (tZ w hg) ?_; clear HB; intro HB BK426 GW426 GE426; clear hb hbox hg; have hcz9_0 : w8.cell? ⟨gb426, 0, none⟩ = some (.int .i64 a0_0) := (kQC BK426.out 0).trans rfl; have hcz9_1 : w8.cell? ⟨gb426, 1, none⟩ = some (.int .i64 a0_1) := (kQC BK426.out 1).trans rfl; have hcz9_2 : w8.cell? ⟨gb426, 2, none⟩ = some (.int .i64 a0_2) := (kQC BK426.out 2).trans rfl; have hcz9_3 : w8.cell? ⟨gb426, 3, none⟩ = some (.int .i64 a0_3) := (kQC BK426.out 3).trans rfl; have hcz9_4 : w8.cell? ⟨gb426, 4, none⟩ = some (.slice A0_4 l0_4.length c0_4) := (kQC BK426.out 4).trans rfl; have hcz9_5 : w8.cell? ⟨gb426, 5, none⟩ = some (.slice A0_5 l0_5.length c0_5) := (kQC BK426.out 5).trans rfl; have hfz9_0 := kQF BK426.out 0; have hfz9_1 := kQF BK426.out 1; have hfz9_2 := kQF BK426.out 2; have hfz9_3 := kQF BK426.out 3; have hfz9_4 := kQF BK426.out 4; have hfz9_5 := kQF BK426.out 5) | ((with_reducible refine gQc (f := 51) rfl ?_); refine goesL_ (some 11) rfl rfl Try.func51 (by kernel_rfl) rfl #[.agg #[.int .i64 a0_0, .int .i64 a0_1, .int .i64 a0_2, .int .i64 a0_3, .slice A0_4 l0_4.length c0_4, .slice A0_5 l0_5.length c0_5], .int .i64 a1] rfl tL ?_; (with_reducible refine (impl_Net_into.calls k a0_0 a0_1 a0_2 a0_3 _ _ l0_4 _ _ l0_5 a1 t427 _ ?s1 ?s2 ?s3 ?s4 A6.out).mono ?_); (case s1 => exact tC ((Kd.C_below HR0_4.out HB.out))); (case s2 => exact HC0_4.out); (case s3 => exact tC ((Kd.C_below HR0_5.out HB.out))); (case s4 => exact HC0_5.out); rintro e w10 ⟨v428, rfl, ho0, hb⟩; refine ⟨_, rfl, ?_⟩; refine qM3 (Kd.R_lower ho0 (bQZ tB)) (tQ BK426.out hb) (bQT tB hb) ?_; clear BK426 HB; intro HO429 BK426 HB; (try clear hb); (try clear hb2); (try clear hk); (try clear hi); (try clear ho0); obtain ⟨Ao11, co11, eo11⟩ := Kd.R_slice HO429.out; subst eo11) | ((with_reducible refine gQc (f := 71) rfl ?_); refine goesL_ (some 12) rfl rfl Try.func71 (by kernel_rfl) rfl #[.slice Ao11 t427.length co11] rfl tL ?_; (with_reducible refine (impl_size_int64_71.calls _ _ t427 t430 _ ?s1 ?s2 A7.out).mono ?_); (case s1 => exact tC ((Kd.R_reads' HO429.out).2.2)); (case s2 => exact (Kd.R_reads' HO429.out).2.1); rintro e w' ⟨rfl, ⟨nd, rfl⟩⟩; refine ⟨_, rfl, ?_⟩))
 go_ret
 exact ⟨tE, tB⟩
end Go.Proofs.Ytbalkaphibnpcaa.P
