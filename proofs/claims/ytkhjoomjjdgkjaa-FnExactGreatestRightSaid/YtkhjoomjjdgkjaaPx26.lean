/- Functions of the program and what they tell, as the printing program wrote it. -/
import Derived.Test.YtkhjoomjjdgkjaaPx0
import Derived.Test.YtkhjoomjjdgkjaaPx6
import Derived.Test.YtkhjoomjjdgkjaaPx8
import Derived.Test.YtkhjoomjjdgkjaaPx9
namespace Go.Proofs.Ytkhjoomjjdgkjaa.P
open Go.Shelf Go.RowKit Go.Proofs.YtkhjoomjjdgkjaaW.PrintWords Go.Proofs.YtkhjoomjjdgkjaaW.PrintLast Go.Proofs.YtkhjoomjjdgkjaaW.PrintMore
attribute [local go_sem] max2_int min2_int max_two min_two max_three min_three max_four min_four
set_option linter.unusedVariables false
set_option linter.unusedSimpArgs false
set_option maxHeartbeats 8000000
set_option maxRecDepth 100000
def impl_Field_euclid.l0 : Nat → List Int → List Int → List Int → List Int → Int → Int → Option (List Int × List Int)
  | 0, _, _, _, _, _, _ => none
  | k + 1, x1, x2, x8, x9, x729000, x729001 => if (x2.length : Int) > 0 then ((impl_Field_divide.f k x729000 x729001 x1 x2 true).bind fun bt735 => ((impl_Field_compose.f k x729000 x729001 bt735.1 x9).bind fun t741 => ((impl_plus.f k x8 t741).bind fun t744 => (impl_Field_euclid.l0 k x2 bt735.2 x9 t744 x729000 x729001)))) else (some (x1, x9))
def impl_Field_euclid.f (k : Nat) (a0_0 : Int) (a0_1 : Int) (l1 : List Int) (l2 : List Int) : Option (List Int × List Int) := impl_Field_euclid.l0 k l1 l2 (([1] : List Int)) (([] : List Int)) a0_0 a0_1
theorem impl_Field_euclid.mono_l : ∀ k, (∀ y0 y1 y2 y3 y4 y5, LeO (impl_Field_euclid.l0 k y0 y1 y2 y3 y4 y5) (impl_Field_euclid.l0 (k + 1) y0 y1 y2 y3 y4 y5))
 | 0 => fun _ _ _ _ _ _ r h => by simp [impl_Field_euclid.l0] at h
 | k + 1 => by
  have ih0 := impl_Field_euclid.mono_l k
  ·intro y0 y1 y2 y3 y4 y5
   unfold impl_Field_euclid.l0
   repeat' first
   | (with_reducible first | apply ih0 | apply impl_Field_compose.mono | apply impl_Field_divide.mono | apply impl_plus.mono | exact LeO.refl _ | exact LeO.none _ | refine LeO.ite ?_ ?_ | refine LeO.bind ?_ (fun _ => ?_))
   | exact LeO.none _
   | refine LeO.ite ?_ ?_
   | refine LeO.bind ?_ (fun _ => ?_)
theorem impl_Field_euclid.mono : ∀ a0 a1 a2 a3 k, LeO (impl_Field_euclid.f k a0 a1 a2 a3) (impl_Field_euclid.f (k + 1) a0 a1 a2 a3) := by
 intro a0 a1 a2 a3 k
 have ih0 := impl_Field_euclid.mono_l k
 unfold impl_Field_euclid.f
 repeat' first
  | (with_reducible first | apply ih0 | apply impl_Field_compose.mono | apply impl_Field_divide.mono | apply impl_plus.mono | exact LeO.refl _ | exact LeO.none _ | refine LeO.ite ?_ ?_ | refine LeO.bind ?_ (fun _ => ?_))
  | exact LeO.none _
  | refine LeO.ite ?_ ?_
  | refine LeO.bind ?_ (fun _ => ?_)
theorem impl_Field_euclid.calls (k : Nat) (a0_0 : Int) (a0_1 : Int) (P1_ : Nat → Prop) (A1 : Option Addr) (c1 : Nat) (l1 : List Int) (P2_ : Nat → Prop) (A2 : Option Addr) (c2 : Nat) (l2 : List Int) (r1 : List Int) (r2 : List Int) (w : World) (hs1 : Kd.V (Kd.int .i64) 2 w w.heap.size (fun k_ => P1_ k_) (.slice A1 l1.length c1) l1) (hs2 : Kd.V (Kd.int .i64) 2 w w.heap.size (fun k_ => P2_ k_) (.slice A2 l2.length c2) l2) (h : impl_Field_euclid.f k a0_0 a0_1 l1 l2 = some (r1, r2)) :
 Calls Try.prog 46 #[.agg #[.int .i64 a0_0, .int .i64 a0_1], .slice A1 l1.length c1, .slice A2 l2.length c2] w fun e w' => ∃ v0_ v1_ : Value, e = .returned (.tuple #[v0_, v1_]) ∧ Kd.V (Kd.int .i64) 2 w' w.heap.size (fun k_ => ((P1_ k_ ∨ P2_ k_) ∨ w.heap.size ≤ k_) ∧ some k_ ≠ (v1_ : Value).ownBlock) v0_ r1 ∧ Kd.R (Kd.int .i64) 2 w' w.heap.size (fun k_ => (w.heap.size ≤ k_)) v1_ r2 ∧ Below w.heap.size w w' := by
 have hu27 := Try.underlying27
 have HO1 := Aq.mk (show Kd.V (Kd.int .i64) 2 w w.heap.size (fun k_ => ((P1_ k_ ∨ P2_ k_) ∨ w.heap.size ≤ k_)) (.slice A1 l1.length c1) l1 from Kd.V_mono hs1 (fun k_ hk => .inl (.inl hk)))
 have HO2 := Aq.mk (show Kd.V (Kd.int .i64) 2 w w.heap.size (fun k_ => ((P1_ k_ ∨ P2_ k_) ∨ w.heap.size ≤ k_)) (.slice A2 l2.length c2) l2 from Kd.V_mono hs2 (fun k_ hk => .inl (.inr hk)))
 have HB := Aq.mk (Below.refl w.heap.size w)
 have H : (impl_Field_euclid.l0 k l1 l2 (([1] : List Int)) (([] : List Int)) a0_0 a0_1) = some (r1, r2) := h
 clear h
 obtain ⟨y729, hy729⟩ : ∃ y_ : List Int, y_ = (([1] : List Int)) := ⟨_, rfl⟩
 replace H : (impl_Field_euclid.l0 k l1 l2 y729 (([] : List Int)) a0_0 a0_1) = some (r1, r2) := by first | (rw [hy729]; with_reducible exact H) | (have H2_ := (Option.bind_some _ _).symm.trans H; rw [hy729]; with_reducible exact H2_) | (have H2_ := (Option.bind_some _ _).symm.trans H; with_reducible exact H2_) | with_reducible exact H | (rw [hy729]; exact H) | exact H
 have Ny729 := Aq.mk hy729
 clear hy729
 obtain ⟨y732, hy732⟩ : ∃ y_ : List Int, y_ = (([] : List Int)) := ⟨_, rfl⟩
 replace H : (impl_Field_euclid.l0 k l1 l2 y729 y732 a0_0 a0_1) = some (r1, r2) := by first | (rw [hy732]; with_reducible exact H) | (have H2_ := (Option.bind_some _ _).symm.trans H; rw [hy732]; with_reducible exact H2_) | (have H2_ := (Option.bind_some _ _).symm.trans H; with_reducible exact H2_) | with_reducible exact H | (rw [hy732]; exact H) | exact H
 have Ny732 := Aq.mk hy732
 clear hy732
 replace H' := Aq.mk H
 clear H
 go_enter Try.func46, Try.ntmps46
 go_wp2_with (first | ((with_reducible refine gQd (N := 3) rfl ?_); refine xQe ?hg (N := 3) ?hd (cs := #[.int .i64 a0_0, .int .i64 a0_1]) (t := 27) ?hr ?_; (case hd => rfl); (case hg => rfl); (case hr => exact tH); intro gb728 hg w4 hbox hb; refine qM6 (Kd.V_below (Kd.V_elderB (by (with_reducible repeat (first | apply Kd.V_alloc | apply Kd.V_drewN | apply Kd.V_drew)); exact HO1.out) gb728 (Nat.le_of_eq hg.symm)) hb) (Kd.V_below (Kd.V_elderB (by (with_reducible repeat (first | apply Kd.V_alloc | apply Kd.V_drewN | apply Kd.V_drew)); exact HO2.out) gb728 (Nat.le_of_eq hg.symm)) hb) (bQT tB hb) hbox (tZ w hg) (tZ w hg) ?_; clear HO1 HO2 HB; intro HO1 HO2 HB BK728 GW728 GE728; clear hb hbox hg) | ((with_reducible refine gQd (N := 12) rfl ?_); refine Kd.R_lit (Kd.int .i64) _ 2 ?hg (N := 12) ?hd (xs := ([1] : List Int)) (inner := [.int .i64 1]) (ok := fun _ => True) (okp := fun _ => True) ?hr ?hp (fun _ hk => hk) trivial (Below.refl _ _) (Nat.le_refl _) (by simp) ?_; (case hd => rfl); (case hg => rfl); (case hr => exact tH); (case hp => exact (Reps.one (show Kd.M (Kd.int .i64) _ _ _ 1 [.int .i64 1] from rfl) (Reps.none _ _))); intro v730 w5 ho6 hb hg_ hnew_; clear hg_ hnew_; (first | rw [← Ny729.out] at ho6 | (simp only [Int.reduceToNat] at ho6; rw [← Ny729.out] at ho6)); refine qM5 (Kd.V_elder' (by (with_reducible repeat (first | apply Kd.V_alloc | apply Kd.V_drewN | apply Kd.V_drew)); exact HO1.out) (Kd.R_base ho6) hb) (Kd.V_elder' (by (with_reducible repeat (first | apply Kd.V_alloc | apply Kd.V_drewN | apply Kd.V_drew)); exact HO2.out) (Kd.R_base ho6) hb) (Kd.R_lower (Kd.R_newM (M := fun k_ => (w.heap.size ≤ k_)) ho6 (bQZ tB) (fun k_ h_ => h_)) (bQZ tB)) (tQ BK728.out hb) (bQT tB hb) ?_; clear HO1 HO2 BK728 HB; intro HO1 HO2 HO731 BK728 HB; clear hb ho6) | ((with_reducible refine gQd (N := 13) rfl ?_); refine Kd.R_lit (Kd.int .i64) _ 2 ?hg (N := 13) ?hd (xs := ([] : List Int)) (inner := []) (ok := fun _ => True) (okp := fun _ => True) ?hr ?hp (fun _ hk => hk) trivial (Below.refl _ _) (Nat.le_refl _) (by simp) ?_; (case hd => rfl); (case hg => rfl); (case hr => exact tH); (case hp => exact (Reps.none _ _)); intro v733 w7 ho8 hb hg_ hnew_; clear hg_ hnew_; (first | rw [← Ny732.out] at ho8 | (simp only [Int.reduceToNat] at ho8; rw [← Ny732.out] at ho8)); refine qM6 (Kd.V_elder' (by (with_reducible repeat (first | apply Kd.V_alloc | apply Kd.V_drewN | apply Kd.V_drew)); exact HO1.out) (Kd.R_base ho8) hb) (Kd.V_elder' (by (with_reducible repeat (first | apply Kd.V_alloc | apply Kd.V_drewN | apply Kd.V_drew)); exact HO2.out) (Kd.R_base ho8) hb) (Kd.R_elder' (tR HO731.out) (Kd.R_base ho8) hb) (Kd.R_lower (Kd.R_new' (Kd.R_newM (M := fun k_ => (w.heap.size ≤ k_)) ho8 (bQZ tB) (fun k_ h_ => h_)) (Kd.R_lt (tR HO731.out))) (bQZ tB)) (tQ BK728.out hb) (bQT tB hb) ?_; clear HO1 HO2 HO731 BK728 HB; intro HO1 HO2 HO731 HO734 BK728 HB; clear hb ho8))
 go_loopg [1, 2, 8, 9] k (fun kq v1 v2 v8 v9 w' => ∃ (x1_1 : List Int) (x2_1 : List Int) (x8_1 : List Int) (x9_1 : List Int), Aq (impl_Field_euclid.l0 kq x1_1 x2_1 x8_1 x9_1 a0_0 a0_1 = some (r1, r2)) ∧ Aq (kq ≤ k) ∧ Aq (Kd.V (Kd.int .i64) 2 w' w.heap.size (fun k_ => ((P1_ k_ ∨ P2_ k_) ∨ w.heap.size ≤ k_) ∧ some k_ ≠ (v8 : Value).ownBlock ∧ some k_ ≠ (v9 : Value).ownBlock ∧ k_ ≠ gb728) v1 x1_1) ∧ Aq (Kd.V (Kd.int .i64) 2 w' w.heap.size (fun k_ => ((P1_ k_ ∨ P2_ k_) ∨ w.heap.size ≤ k_) ∧ some k_ ≠ (v8 : Value).ownBlock ∧ some k_ ≠ (v9 : Value).ownBlock ∧ k_ ≠ gb728) v2 x2_1) ∧ Aq (Kd.R (Kd.int .i64) 2 w' w.heap.size (fun k_ => (w.heap.size ≤ k_) ∧ some k_ ≠ (v9 : Value).ownBlock) v8 x8_1) ∧ Aq (Kd.R (Kd.int .i64) 2 w' w.heap.size (fun k_ => (w.heap.size ≤ k_) ∧ some k_ ≠ (v8 : Value).ownBlock) v9 x9_1) ∧ Aq (w'.heap[gb728]? = some (.cells #[.int .i64 a0_0, .int .i64 a0_1] 27 (0, 0))) ∧ Aq (Below w.heap.size w w'))
 case atStart => exact ⟨(l1), (l2), (y729), (y732), H', ⟨Nat.le_refl _⟩, ⟨by (with_reducible repeat (first | apply Kd.V_alloc | apply Kd.V_drewN | apply Kd.V_drew)); exact Kd.V_mono HO1.out (fun _ hk => ⟨hk.1.1.1, ⟨hk.1.2, ⟨hk.2, hk.1.1.2⟩⟩⟩)⟩, ⟨by (with_reducible repeat (first | apply Kd.V_alloc | apply Kd.V_drewN | apply Kd.V_drew)); exact Kd.V_mono HO2.out (fun _ hk => ⟨hk.1.1.1, ⟨hk.1.2, ⟨hk.2, hk.1.1.2⟩⟩⟩)⟩, ⟨by (with_reducible repeat (first | apply Kd.RqA | apply Kd.RqN | apply Kd.RqD)); exact Kd.R_mono HO731.out (fun _ hk => ⟨hk.1.1, hk.2⟩)⟩, ⟨by (with_reducible repeat (first | apply Kd.RqA | apply Kd.RqN | apply Kd.RqD)); exact Kd.R_mono HO734.out (fun _ hk => ⟨hk.1.1, hk.2⟩)⟩, ⟨tG BK728.out⟩, ⟨tB⟩⟩
 clear H'
 try clear c1
 try clear c2
 obtain ⟨x1_1, x2_1, x8_1, x9_1, HA, HK1, HO_1, HO_2, HO_8, HO_9, BK728, HB⟩ := hrel
 cases gk with
 | zero => exact absurd HA.out (by simp [impl_Field_euclid.l0])
 | succ k1 =>
  have H := HA.out
  clear HA
  simp only [impl_Field_euclid.l0] at H
  by_cases c9 : (x2_1.length : Int) > 0
  rotate_left
  ·rw [if_neg c9] at H
   have c9b0 := decide_eq_false c9
   have c9b1 : decide (0 < x2_1.length) = false := decide_eq_false (by omega)
   clear c9
   simp only [Option.some.injEq, Prod.mk.injEq] at H
   obtain ⟨rfl, rfl⟩ := H
   obtain ⟨Ao24, co24, eo24⟩ := Kd.V_slice HO_2.out
   subst eo24
   go_wp2
   go_ret2
   exact ⟨_, _, tE, by (with_reducible repeat (first | apply Kd.V_alloc | apply Kd.V_drewN | apply Kd.V_drew)); exact Kd.V_mono HO_1.out (fun _ hk => ⟨hk.1, hk.2.2.1⟩), by (with_reducible repeat (first | apply Kd.RqA | apply Kd.RqN | apply Kd.RqD)); exact Kd.R_mono HO_9.out (fun _ hk => hk.1), tB⟩
  rw [if_pos c9] at H
  have c9b0 := decide_eq_true c9
  have c9b1 : decide (0 < x2_1.length) = true := decide_eq_true (by omega)
  clear c9
  obtain ⟨⟨t735, t738⟩, A10, H⟩ := qBd H
  (try dsimp only at H)
  obtain ⟨t741, A11, H⟩ := qBd H
  obtain ⟨t744, A12, H⟩ := qBd H
  replace H' := Aq.mk H
  clear H
  obtain ⟨Ao13, co13, eo13⟩ := Kd.V_slice HO_2.out
  subst eo13
  have hcz14_0 : wr.cell? ⟨gb728, 0, none⟩ = some (.int .i64 a0_0) := (kQC BK728.out 0).trans rfl
  have hcz14_1 : wr.cell? ⟨gb728, 1, none⟩ = some (.int .i64 a0_1) := (kQC BK728.out 1).trans rfl
  have hfz14_0 := kQF BK728.out 0
  have hfz14_1 := kQF BK728.out 1
  obtain ⟨Ao15, co15, eo15⟩ := Kd.V_slice HO_1.out
  subst eo15
  go_wp2_with (first | ((with_reducible refine gQc (f := 67) rfl ?_); refine goesL_ (some 21) rfl rfl Try.func67 (by kernel_rfl) rfl #[.agg #[.int .i64 a0_0, .int .i64 a0_1], .slice Ao15 x1_1.length co15, .slice Ao13 x2_1.length co13, .bool true] rfl tL ?_; (with_reducible refine (impl_Field_divide.calls k1 a0_0 a0_1 _ _ x1_1 _ _ x2_1 true t735 t738 _ ?s1 ?s2 ?s3 ?s4 A10.out).mono ?_); (case s1 => exact tC ((Kd.V_reads' HO_1.out).2.2)); (case s2 => exact (Kd.V_reads' HO_1.out).2.1); (case s3 => exact tC ((Kd.V_reads' HO_2.out).2.2)); (case s4 => exact (Kd.V_reads' HO_2.out).2.1); rintro e w16 ⟨v736, v739, rfl, ho0, ho1, hb⟩; refine ⟨_, rfl, ?_⟩; refine qM8 (Kd.V_mono (Kd.V_told (Kd.V_told (Kd.V_old (by (with_reducible repeat (first | apply Kd.V_alloc | apply Kd.V_drewN | apply Kd.V_drew)); exact HO_1.out) hb) (Kd.R_base ho0)) (Kd.R_base ho1)) (fun _ h_ => h_.1)) (Kd.V_mono (Kd.V_told (Kd.V_told (Kd.V_old (by (with_reducible repeat (first | apply Kd.V_alloc | apply Kd.V_drewN | apply Kd.V_drew)); exact HO_2.out) hb) (Kd.R_base ho0)) (Kd.R_base ho1)) (fun _ h_ => h_.1)) (Kd.R_mono (Kd.R_told (Kd.R_told (Kd.R_old (tR HO_8.out) hb) (Kd.R_base ho0)) (Kd.R_base ho1)) (fun _ h_ => h_.1)) (Kd.R_mono (Kd.R_told (Kd.R_told (Kd.R_old (tR HO_9.out) hb) (Kd.R_base ho0)) (Kd.R_base ho1)) (fun _ h_ => h_.1)) (Kd.R_lower (Kd.R_new' (Kd.R_new' (Kd.R_newM (M := fun k_ => (w.heap.size ≤ k_)) ho0 (bQZ tB) (fun k_ h_ => h_)) (Kd.R_lt (tR HO_8.out))) (Kd.R_lt (tR HO_9.out))) (bQZ tB)) (Kd.R_lower (Kd.R_new' (Kd.R_new' (Kd.R_newM (M := fun k_ => (w.heap.size ≤ k_)) ho1 (bQZ tB) (fun k_ h_ => h_)) (Kd.R_lt (tR HO_8.out))) (Kd.R_lt (tR HO_9.out))) (bQZ tB)) (tQ BK728.out hb) (bQT tB hb) ?_; clear HO_1 HO_2 HO_8 HO_9 BK728 HB; intro HO_1 HO_2 HO_8 HO_9 HO737 HO740 BK728 HB; (try clear hb); (try clear hb2); (try clear hk); (try clear hi); (try clear ho0); (try clear ho1); have hcz17_0 : w16.cell? ⟨gb728, 0, none⟩ = some (.int .i64 a0_0) := (kQC BK728.out 0).trans rfl; have hcz17_1 : w16.cell? ⟨gb728, 1, none⟩ = some (.int .i64 a0_1) := (kQC BK728.out 1).trans rfl; have hfz17_0 := kQF BK728.out 0; have hfz17_1 := kQF BK728.out 1; obtain ⟨Ao18, co18, eo18⟩ := Kd.R_slice HO737.out; subst eo18; obtain ⟨Ao19, co19, eo19⟩ := Kd.R_slice HO_9.out; subst eo19) | ((with_reducible refine gQc (f := 42) rfl ?_); refine goesL_ (some 31) rfl rfl Try.func42 (by kernel_rfl) rfl #[.agg #[.int .i64 a0_0, .int .i64 a0_1], .slice Ao18 t735.length co18, .slice Ao19 x9_1.length co19] rfl tL ?_; (with_reducible refine (impl_Field_compose.calls k1 a0_0 a0_1 _ _ t735 _ _ x9_1 t741 _ ?s1 ?s2 ?s3 ?s4 A11.out).mono ?_); (case s1 => exact tC ((Kd.R_reads' HO737.out).2.2)); (case s2 => exact (Kd.R_reads' HO737.out).2.1); (case s3 => exact tC ((Kd.R_reads' HO_9.out).2.2)); (case s4 => exact (Kd.R_reads' HO_9.out).2.1); rintro e w20 ⟨v742, rfl, ho0, hb⟩; refine ⟨_, rfl, ?_⟩; refine qM9 (Kd.V_elder' (by (with_reducible repeat (first | apply Kd.V_alloc | apply Kd.V_drewN | apply Kd.V_drew)); exact HO_1.out) (Kd.R_base ho0) hb) (Kd.V_elder' (by (with_reducible repeat (first | apply Kd.V_alloc | apply Kd.V_drewN | apply Kd.V_drew)); exact HO_2.out) (Kd.R_base ho0) hb) (Kd.R_elder' (tR HO_8.out) (Kd.R_base ho0) hb) (Kd.R_elder' (tR HO_9.out) (Kd.R_base ho0) hb) (Kd.R_elder' (tR HO737.out) (Kd.R_base ho0) hb) (Kd.R_elder' (tR HO740.out) (Kd.R_base ho0) hb) (Kd.R_lower (Kd.R_new' (Kd.R_new' (Kd.R_new' (Kd.R_new' (Kd.R_newM (M := fun k_ => (w.heap.size ≤ k_)) ho0 (bQZ tB) (fun k_ h_ => h_)) (Kd.R_lt (tR HO_8.out))) (Kd.R_lt (tR HO_9.out))) (Kd.R_lt (tR HO737.out))) (Kd.R_lt (tR HO740.out))) (bQZ tB)) (tQ BK728.out hb) (bQT tB hb) ?_; clear HO_1 HO_2 HO_8 HO_9 HO737 HO740 BK728 HB; intro HO_1 HO_2 HO_8 HO_9 HO737 HO740 HO743 BK728 HB; (try clear hb); (try clear hb2); (try clear hk); (try clear hi); (try clear ho0); obtain ⟨Ao21, co21, eo21⟩ := Kd.R_slice HO_8.out; subst eo21; obtain ⟨Ao22, co22, eo22⟩ := Kd.R_slice HO743.out; subst eo22) | ((with_reducible refine gQc (f := 43) rfl ?_); refine goesL_ (some 32) rfl rfl Try.func43 (by kernel_rfl) rfl #[.slice Ao21 x8_1.length co21, .slice Ao22 t741.length co22] rfl tL ?_; (with_reducible refine (impl_plus.calls k1 _ _ x8_1 _ _ t741 t744 _ ?s1 ?s2 ?s3 ?s4 A12.out).mono ?_); (case s1 => exact tC ((Kd.R_reads' HO_8.out).2.2)); (case s2 => exact (Kd.R_reads' HO_8.out).2.1); (case s3 => exact tC ((Kd.R_reads' HO743.out).2.2)); (case s4 => exact (Kd.R_reads' HO743.out).2.1); rintro e w23 ⟨v745, rfl, ho0, hb⟩; refine ⟨_, rfl, ?_⟩; refine qM10 (Kd.V_elder' (by (with_reducible repeat (first | apply Kd.V_alloc | apply Kd.V_drewN | apply Kd.V_drew)); exact HO_1.out) (Kd.R_base ho0) hb) (Kd.V_elder' (by (with_reducible repeat (first | apply Kd.V_alloc | apply Kd.V_drewN | apply Kd.V_drew)); exact HO_2.out) (Kd.R_base ho0) hb) (Kd.R_elder' (tR HO_8.out) (Kd.R_base ho0) hb) (Kd.R_elder' (tR HO_9.out) (Kd.R_base ho0) hb) (Kd.R_elder' (tR HO737.out) (Kd.R_base ho0) hb) (Kd.R_elder' (tR HO740.out) (Kd.R_base ho0) hb) (Kd.R_elder' (tR HO743.out) (Kd.R_base ho0) hb) (Kd.R_lower (Kd.R_new' (Kd.R_new' (Kd.R_new' (Kd.R_new' (Kd.R_new' (Kd.R_newM (M := fun k_ => (w.heap.size ≤ k_)) ho0 (bQZ tB) (fun k_ h_ => h_)) (Kd.R_lt (tR HO_8.out))) (Kd.R_lt (tR HO_9.out))) (Kd.R_lt (tR HO737.out))) (Kd.R_lt (tR HO740.out))) (Kd.R_lt (tR HO743.out))) (bQZ tB)) (tQ BK728.out hb) (bQT tB hb) ?_; clear HO_1 HO_2 HO_8 HO_9 HO737 HO740 HO743 BK728 HB; intro HO_1 HO_2 HO_8 HO_9 HO737 HO740 HO743 HO746 BK728 HB; (try clear hb); (try clear hb2); (try clear hk); (try clear hi); (try clear ho0)))
  go_roundg k1
  case measure => have := HK1.out; omega
  case rel => exact ⟨(x2_1), (t738), (x9_1), (t744), H', ⟨by have := HK1.out; omega⟩, ⟨by (with_reducible repeat (first | apply Kd.V_alloc | apply Kd.V_drewN | apply Kd.V_drew)); exact Kd.V_mono HO_2.out (fun _ hk => ⟨hk.1.1.1.1.1, ⟨hk.1.1.1.1.2.2.1, ⟨hk.2, hk.1.1.1.1.2.2.2⟩⟩⟩)⟩, ⟨Kd.V_mono (Kd.R_V (by (with_reducible repeat (first | apply Kd.RqA | apply Kd.RqN | apply Kd.RqD)); exact (Kd.R_types HO740.out BK728.out (by decide)))) (fun k_ hk => by first | exact ⟨(.inr (hk.1.1.1.1.1.1)), ⟨hk.1.1.1.2, ⟨hk.1.2, hk.2⟩⟩⟩ | exact (.inr ⟨hk.1.1.1.1.1.1, ⟨hk.1.1.1.2, ⟨hk.1.2, hk.2⟩⟩⟩))⟩, ⟨by (with_reducible repeat (first | apply Kd.RqA | apply Kd.RqN | apply Kd.RqD)); exact Kd.R_mono HO_9.out (fun _ hk => ⟨hk.1.1.1.1.1, hk.2⟩)⟩, ⟨by (with_reducible repeat (first | apply Kd.RqA | apply Kd.RqN | apply Kd.RqD)); exact Kd.R_mono HO746.out (fun _ hk => ⟨hk.1.1.1.1.1.1, hk.1.1.1.2⟩)⟩, ⟨tG BK728.out⟩, ⟨tB⟩⟩
def impl_Field_scaled.f (k : Nat) (a0_0 : Int) (a0_1 : Int) (l1 : List Int) : Option (List Int) := if 0 ≤ (wrap64 ((l1.length : Int) - 1)) then (if (wrap64 ((l1.length : Int) - 1)) < (l1.length : Int) then ((impl_Field_inverse.f k a0_0 a0_1 (rd l1 (wrap64 ((l1.length : Int) - 1)))).bind fun t749 => ((impl_Field_compose.f k a0_0 a0_1 (([t749] : List Int)) l1).bind fun t753 => (some t753))) else (none)) else (none)
theorem impl_Field_scaled.mono : ∀ a0 a1 a2 k, LeO (impl_Field_scaled.f k a0 a1 a2) (impl_Field_scaled.f (k + 1) a0 a1 a2) := by
 intro a0 a1 a2 k
 unfold impl_Field_scaled.f
 repeat' first
  | (with_reducible first | apply impl_Field_compose.mono | apply impl_Field_inverse.mono | exact LeO.refl _ | exact LeO.none _ | refine LeO.ite ?_ ?_ | refine LeO.bind ?_ (fun _ => ?_))
  | exact LeO.none _
  | refine LeO.ite ?_ ?_
  | refine LeO.bind ?_ (fun _ => ?_)
def impl_Field_scaled.T1 : Bool × List (List Nat × List Nat) := (true, [([], []), ([], []), ([], []), ([], []), ([3], [3]), ([4], [4]), ([2, 5], [2, 5]), ([6], [6]), ([1, 7], [1, 7]), ([8], [8]), ([], []), ([0, 9, 10, 8], [0, 9, 10]), ([11, 11, 0, 1, 2, 3, 4, 5, 6, 7, 8, 9, 10, 11], [11])])
def impl_Field_scaled.B1 : List Nat := [0, 0, 0, 0, 8, 24, 60, 124, 254, 510, 0, 2047, 4095]
theorem impl_Field_scaled.tab1 : rtab .any (opsOf Try.f47 1) = impl_Field_scaled.T1 := by kernel_rfl
theorem impl_Field_scaled.bits1 : waitsOk impl_Field_scaled.T1.2 impl_Field_scaled.B1 = true := by kernel_rfl
theorem impl_Field_scaled.calls (k : Nat) (a0_0 : Int) (a0_1 : Int) (A1 : Option Addr) (c1 : Nat) (l1 : List Int) (r : List Int) (w : World) (hr1 : Kd.C (Kd.int .i64) w A1 l1.length l1) (hc1 : l1.length ≤ c1) (h : impl_Field_scaled.f k a0_0 a0_1 l1 = some r) :
 Calls Try.prog 47 #[.agg #[.int .i64 a0_0, .int .i64 a0_1], .slice A1 l1.length c1] w fun e w' => ∃ v0_ : Value, e = .returned (v0_) ∧ Kd.R (Kd.int .i64) 2 w' w.heap.size (fun _ => True) v0_ r ∧ Below w.heap.size w w' := by
 have hu27 := Try.underlying27
 have HR1 := Aq.mk hr1
 have HC1 := Aq.mk hc1
 clear hr1 hc1
 have HB := Aq.mk (Below.refl w.heap.size w)
 have H : (if 0 ≤ (wrap64 ((l1.length : Int) - 1)) then (if (wrap64 ((l1.length : Int) - 1)) < (l1.length : Int) then ((impl_Field_inverse.f k a0_0 a0_1 (rd l1 (wrap64 ((l1.length : Int) - 1)))).bind fun t749 => ((impl_Field_compose.f k a0_0 a0_1 (([t749] : List Int)) l1).bind fun t753 => (some t753))) else (none)) else (none)) = some r := h
 clear h
 obtain ⟨ji3, hji3⟩ : ∃ j_ : Int, (wrap64 ((l1.length : Int) - 1)) = j_ := ⟨_, rfl⟩
 first | rw [hji3] at H | simp only [hji3] at H | skip
 have hji3w : (IntKind.i64.wrap ((l1.length : Int) - 1)) = ji3 := (i64_w _).trans hji3
 by_cases c4 : 0 ≤ (ji3)
 rotate_left
 ·rw [if_neg c4] at H
  exact absurd H (by simp)
 rw [if_pos c4] at H
 have c4b0 := decide_eq_true c4
 clear c4
 by_cases c5 : (ji3) < (l1.length : Int)
 rotate_left
 ·rw [if_neg c5] at H
  exact absurd H (by simp)
 rw [if_pos c5] at H
 have c5b0 := decide_eq_true c5
 clear c5
 obtain ⟨t749, A6, H⟩ := qBd H
 obtain ⟨y750, hy750⟩ : ∃ y_ : List Int, y_ = (([t749] : List Int)) := ⟨_, rfl⟩
 replace H : ((impl_Field_compose.f k a0_0 a0_1 y750 l1).bind fun t753 => (some t753)) = some r := by first | (rw [hy750]; with_reducible exact H) | (have H2_ := (Option.bind_some _ _).symm.trans H; rw [hy750]; with_reducible exact H2_) | (have H2_ := (Option.bind_some _ _).symm.trans H; with_reducible exact H2_) | with_reducible exact H | (rw [hy750]; exact H) | exact H
 have Ny750 := Aq.mk hy750
 clear hy750
 obtain ⟨t753, A7, H⟩ := qBd H
 obtain rfl := Option.some.inj H
 go_enter Try.func47, Try.ntmps47
 try go_wp2_with (first | ((with_reducible refine gQd (N := 2) rfl ?_); refine xQe ?hg (N := 2) ?hd (cs := #[.int .i64 a0_0, .int .i64 a0_1]) (t := 27) ?hr ?_; (case hd => rfl); (case hg => rfl); (case hr => exact tH); intro gb747 hg w8 hbox hb; refine qM4 (bQT tB hb) hbox (tZ w hg) (tZ w hg) ?_; clear HB; intro HB BK747 GW747 GE747; clear hb hbox hg))
 have n0_ := Aq.mk (kQD BK747.out)
 have n1_ := Aq.mk (bQ1 HB.out)
 clear BK747
 clear HB
 have BK747 := n0_
 have HB := n1_
 clear n0_ n1_
 have p748 : 0 ≤ ((ji3) : Int) := of_decide_eq_true tA
 have q748 : (ji3) < (l1.length : Int) := of_decide_eq_true tA
 obtain ⟨ad748, e748, hx748_0⟩ := Kd.at_int HR1.out (ji3) p748 q748
 have hw748_0 := hx748_0
 cases e748
 replace hx748_0 := (HB.out.cell (World.block_lt_of_cell? w _ hx748_0)).trans hx748_0
 replace p748 := eq_true p748
 replace q748 := eq_true q748
 refine start_ (n := 13) (S := fun w' => w'.cell? ⟨gb747, 0, none⟩ = some (.int .i64 a0_0) ∧ w'.cell? ⟨gb747, 1, none⟩ = some (.int .i64 a0_1) ∧ w'.cell? (ad748.add ((ji3)).toNat) = some (.int .i64 (rd l1 (ji3)))) (ds := []) #[false, false, false, false, false, false, false, false, false, false, false, false, false] (by kernel_rfl) rfl rfl ⟨(kQC BK747.out 0).trans rfl, (kQC BK747.out 1).trans rfl, (tcw tB hw748_0)⟩ (fun hHeld => ?_); refine with_tabW impl_Field_scaled.tab1 impl_Field_scaled.bits1 (fun HT_ HW_ => ?_)
 generalize w8.drew = w9 at BK747 HB hx748_0 hHeld ⊢
 refine tP0 2 7 (bm 13 4) ?_
 refine tP0 3 8 (bm 13 12) ?_
 refine tP0 4 9 (bm 13 28) ?_
 refine tP0 5 10 (bm 13 60) ?_
 refine tP0 6 11 (bm 13 124) ?_
 refine tP0 10 15 (bm 13 1148) ?_
 refine tT3 0 5 (bm 13 1149) ?_
 refine tT3 1 6 (bm 13 1151) ?_
 refine tT3 7 12 (bm 13 1279) ?_
 refine one_ (i := 8) (N := some 13) (bm 13 1535) rfl rfl (one_of HT_.out (by kernel_rfl)) (by decide) (fun K hK => ?_)
 refine goes_ Try.func84 (by kernel_rfl) rfl #[.agg #[.int .i64 a0_0, .int .i64 a0_1], .int .i64 (rd l1 (ji3))] (by rfl) rfl rfl (by (try simp only [List.map_toArray, List.map_cons, List.map_nil]); first | done | (simp only [hji3]; rfl) | rfl | (simp only [List.length_drop, List.length_take]; rfl)) ?_
 with_reducible refine (impl_Field_inverse.calls k a0_0 a0_1 (rd l1 (ji3)) t749 _ A6.out).mono ?_
 rintro e w10 ⟨rfl, hb⟩
 refine ⟨_, rfl, ?_⟩
 have n0_ := Aq.mk (tQ BK747.out hb)
 have n1_ := Aq.mk (bQT tB hb)
 clear BK747
 clear HB
 have BK747 := n0_
 have HB := n1_
 clear n0_ n1_
 (try clear hb)
 (try clear hb2)
 (try clear hk)
 (try clear hi)
 refine hK.out _ _ ⟨(kQC BK747.out 0).trans rfl, (kQC BK747.out 1).trans rfl, (tcw tB hw748_0)⟩ (fun hHeld => ?_)
 clear hK K
 refine tN 13 ?_
 refine one_ (i := 9) (N := some 14) (bm 13 2047) rfl rfl (one_of HT_.out (by kernel_rfl)) (by decide) (fun K hK => ?_)
 refine Kd.R_lit_step (Kd.int .i64) _ 2 ?hg (N := 14) ?hd (xs := ([t749] : List Int)) (inner := [.int .i64 t749]) (ok := fun _ => True) (okp := fun _ => True) ?hr ?hp (fun _ hk => hk) trivial (Below.refl _ _) (Nat.le_refl _) (by simp) ?_; (case hd => rfl); (case hg => rfl); (case hr => exact tH); (case hp => exact (Reps.one (show Kd.M (Kd.int .i64) _ _ _ t749 [.int .i64 t749] from rfl) (Reps.none _ _)))
 intro v751 w11 ho12 hb hg_ hnew_
 clear hg_ hnew_
 (first | rw [← Ny750.out] at ho12 | (simp only [Int.reduceToNat] at ho12; rw [← Ny750.out] at ho12))
 have n0_ := Aq.mk (Kd.R_lower ho12 (bQZ tB))
 have n1_ := Aq.mk (tQ BK747.out hb)
 have n2_ := Aq.mk (bQT tB hb)
 clear BK747
 clear HB
 have HO752 := n0_
 have BK747 := n1_
 have HB := n2_
 clear n0_ n1_ n2_
 clear hb ho12
 obtain ⟨Ao13, co13, eo13⟩ := Kd.R_slice HO752.out
 (first | subst eo13 | (injection eo13 with f1_ f2_ f3_; have f4_ := f1_.symm; have f5_ := f3_.symm; clear f1_ f2_ f3_; subst f4_; subst f5_))
 refine hK.out _ _ ⟨(kQC BK747.out 0).trans rfl, (kQC BK747.out 1).trans rfl, (tcw tB hw748_0)⟩ (fun hHeld => ?_)
 clear hK K
 refine tN 14 ?_
 refine one_ (i := 11) (N := some 16) (bm 13 4095) rfl rfl (one_of HT_.out (by kernel_rfl)) (by decide) (fun K hK => ?_)
 refine goes_ Try.func42 (by kernel_rfl) rfl #[.agg #[.int .i64 a0_0, .int .i64 a0_1], .slice Ao13 y750.length co13, .slice (some ad748) l1.length c1] (by rfl) rfl rfl tL ?_
 with_reducible refine (impl_Field_compose.calls k a0_0 a0_1 _ _ y750 _ _ l1 t753 _ ?s1 ?s2 ?s3 ?s4 A7.out).mono ?_
 (case s1 => exact tC ((Kd.R_reads' HO752.out).2.2))
 (case s2 => exact (Kd.R_reads' HO752.out).2.1)
 (case s3 => exact tC ((Kd.C_below HR1.out HB.out)))
 (case s4 => exact HC1.out)
 rintro e w14 ⟨v754, rfl, ho0, hb⟩
 refine ⟨_, rfl, ?_⟩
 have n0_ := Aq.mk (Kd.R_elder' (tR HO752.out) (Kd.R_base ho0) hb)
 have n1_ := Aq.mk (Kd.R_lower (Kd.R_new' ho0 (Kd.R_lt (tR HO752.out))) (bQZ tB))
 have n2_ := Aq.mk (tQ BK747.out hb)
 have n3_ := Aq.mk (bQT tB hb)
 clear HO752
 clear BK747
 clear HB
 have HO752 := n0_
 have HO755 := n1_
 have BK747 := n2_
 have HB := n3_
 clear n0_ n1_ n2_ n3_
 (try clear hb)
 (try clear hb2)
 (try clear hk)
 (try clear hi)
 (try clear ho0)
 refine hK.out _ _ ⟨(kQC BK747.out 0).trans rfl, (kQC BK747.out 1).trans rfl, (tcw tB hw748_0)⟩ (fun hHeld => ?_)
 clear hK K
 refine tN 16 ?_
 refine tP0 12 4 (bm 13 8191) ?_
 refine done_ (done_of HT_.out (by kernel_rfl)) ?_
 try go_wp2
 go_ret
 exact ⟨_, by first | rfl | (simp [errW_none, errW_some] <;> rfl) | (simp only [← hji3]; first | rfl | (simp [errW_none, errW_some] <;> rfl)) | (simp [*, errW_none, errW_some] <;> rfl), by (with_reducible repeat (first | apply Kd.RqA | apply Kd.RqN | apply Kd.RqD)); exact Kd.R_mono HO755.out (fun _ hk => trivial), tB⟩
end Go.Proofs.Ytkhjoomjjdgkjaa.P
