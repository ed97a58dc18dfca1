/- Functions of the program and what they tell, as the printing program wrote it. -/
import Derived.Test.YtkhjoomjjdgkjaaPx0
import Derived.Test.YtkhjoomjjdgkjaaPx3
import Derived.Test.YtkhjoomjjdgkjaaPx4
import Derived.Test.YtkhjoomjjdgkjaaPx5
import Derived.Test.YtkhjoomjjdgkjaaPx28
namespace Go.Proofs.Ytkhjoomjjdgkjaa.P
open Go.Shelf Go.RowKit Go.Proofs.YtkhjoomjjdgkjaaW.PrintWords Go.Proofs.YtkhjoomjjdgkjaaW.PrintLast Go.Proofs.YtkhjoomjjdgkjaaW.PrintMore
attribute [local go_sem] max2_int min2_int max_two min_two max_three min_three max_four min_four
set_option linter.unusedVariables false
set_option linter.unusedSimpArgs false
set_option maxHeartbeats 8000000
set_option maxRecDepth 100000
def impl_Field_fold.l0 : Nat → List Int → List Int → Int → Int → Int → Int → Option (List Int)
  | 0, _, _, _, _, _, _ => none
  | k + 1, x5, x11, x12, x13, x851000, x851001 => if x13 < x12 then (if 0 ≤ x13 then (if x13 < (x11.length : Int) then (if x851000 = 0 then (none) else (if 0 ≤ (Int.tmod x13 x851000) then (if (Int.tmod x13 x851000) < (x5.length : Int) then (impl_Field_fold.l0 k (x5.set ((Int.tmod x13 x851000) : Int).toNat (Go.bits .xor .i64 (rd x5 (Int.tmod x13 x851000)) (rd x11 x13))) x11 x12 (wrap64 (x13 + 1)) x851000 x851001) else (none)) else (none))) else (none)) else (none)) else ((impl_trim.f k x5).bind fun t857 => (some t857))
def impl_Field_fold.f (k : Nat) (a0_0 : Int) (a0_1 : Int) (l1 : List Int) : Option (List Int) := if 0 ≤ a0_0 then (if (a0_0 : Int).toNat ≤ 35184372088832 then (impl_Field_fold.l0 k (List.replicate (a0_0 : Int).toNat 0) l1 (l1.length : Int) 0 a0_0 a0_1) else (none)) else (none)
theorem impl_Field_fold.mono_l : ∀ k, (∀ y0 y1 y2 y3 y4 y5, LeO (impl_Field_fold.l0 k y0 y1 y2 y3 y4 y5) (impl_Field_fold.l0 (k + 1) y0 y1 y2 y3 y4 y5))
 | 0 => fun _ _ _ _ _ _ r h => by simp [impl_Field_fold.l0] at h
 | k + 1 => by
  have ih0 := impl_Field_fold.mono_l k
  ·intro y0 y1 y2 y3 y4 y5
   unfold impl_Field_fold.l0
   repeat' first
   | (with_reducible first | apply ih0 | apply impl_trim.mono | exact LeO.refl _ | exact LeO.none _ | refine LeO.ite ?_ ?_ | refine LeO.bind ?_ (fun _ => ?_))
   | exact LeO.none _
   | refine LeO.ite ?_ ?_
   | refine LeO.bind ?_ (fun _ => ?_)
theorem impl_Field_fold.mono : ∀ a0 a1 a2 k, LeO (impl_Field_fold.f k a0 a1 a2) (impl_Field_fold.f (k + 1) a0 a1 a2) := by
 intro a0 a1 a2 k
 have ih0 := impl_Field_fold.mono_l k
 unfold impl_Field_fold.f
 repeat' first
  | (with_reducible first | apply ih0 | apply impl_trim.mono | exact LeO.refl _ | exact LeO.none _ | refine LeO.ite ?_ ?_ | refine LeO.bind ?_ (fun _ => ?_))
  | exact LeO.none _
  | refine LeO.ite ?_ ?_
  | refine LeO.bind ?_ (fun _ => ?_)
theorem impl_Field_fold.calls (k : Nat) (a0_0 : Int) (a0_1 : Int) (A1 : Option Addr) (c1 : Nat) (l1 : List Int) (r : List Int) (w : World) (hr1 : Kd.C (Kd.int .i64) w A1 l1.length l1) (hc1 : l1.length ≤ c1) (h : impl_Field_fold.f k a0_0 a0_1 l1 = some r) :
 Calls Try.prog 52 #[.agg #[.int .i64 a0_0, .int .i64 a0_1], .slice A1 l1.length c1] w fun e w' => ∃ v0_ : Value, e = .returned (v0_) ∧ Kd.R (Kd.int .i64) 2 w' w.heap.size (fun _ => True) v0_ r ∧ Below w.heap.size w w' := by
 have hu27 := Try.underlying27
 have HR1 := Aq.mk hr1
 have HC1 := Aq.mk hc1
 clear hr1 hc1
 have HB := Aq.mk (Below.refl w.heap.size w)
 have H : (if 0 ≤ a0_0 then (if (a0_0 : Int).toNat ≤ 35184372088832 then (impl_Field_fold.l0 k (List.replicate (a0_0 : Int).toNat 0) l1 (l1.length : Int) 0 a0_0 a0_1) else (none)) else (none)) = some r := h
 clear h
 by_cases c3 : 0 ≤ a0_0
 rotate_left
 ·rw [if_neg c3] at H
  exact absurd H (by simp)
 rw [if_pos c3] at H
 have c3b0 := eq_true c3
 have c3b1 := decide_eq_true c3
 clear c3
 by_cases c4 : (a0_0 : Int).toNat ≤ 35184372088832
 rotate_left
 ·rw [if_neg c4] at H
  exact absurd H (by simp)
 rw [if_pos c4] at H
 have c4b0 := eq_true c4
 have c4b1 := decide_eq_true c4
 clear c4
 obtain ⟨y851, hy851⟩ : ∃ y_ : List Int, y_ = (List.replicate (a0_0 : Int).toNat 0) := ⟨_, rfl⟩
 replace H : (impl_Field_fold.l0 k y851 l1 (l1.length : Int) 0 a0_0 a0_1) = some r := by first | (rw [hy851]; with_reducible exact H) | (have H2_ := (Option.bind_some _ _).symm.trans H; rw [hy851]; with_reducible exact H2_) | (have H2_ := (Option.bind_some _ _).symm.trans H; with_reducible exact H2_) | with_reducible exact H | (rw [hy851]; exact H) | exact H
 have Ny851 := Aq.mk hy851
 clear hy851
 replace H' := Aq.mk H
 clear H
 go_enter Try.func52, Try.ntmps52
 go_wp2_with (first | ((with_reducible refine gQd (N := 2) rfl ?_); refine xQe ?hg (N := 2) ?hd (cs := #[.int .i64 a0_0, .int .i64 a0_1]) (t := 27) ?hr ?_; (case hd => rfl); (case hg => rfl); (case hr => exact tH); intro gb850 hg w5 hbox hb; refine qM4 (bQT tB hb) hbox (tZ w hg) (tZ w hg) ?_; clear HB; intro HB BK850 GW850 GE850; clear hb hbox hg; have hcz6_0 : w5.cell? ⟨gb850, 0, none⟩ = some (.int .i64 a0_0) := (kQC BK850.out 0).trans rfl; have hcz6_1 : w5.cell? ⟨gb850, 1, none⟩ = some (.int .i64 a0_1) := (kQC BK850.out 1).trans rfl; have hfz6_0 := kQF BK850.out 0; have hfz6_1 := kQF BK850.out 1) | ((with_reducible refine gQd (N := 10) rfl ?_); refine Kd.R_make (Kd.int .i64) _ 2 rfl (N := 10) rfl 24 _ _ rfl a0_0 rfl rfl Try.underlying24 (.int .i64 0) 8 info2 rfl (by decide) (by omega) 0 (ok := fun _ => True) (okp := fun _ => True) rfl (fun _ hk => hk) trivial (of_decide_eq_true tA) (Nat.le_trans (Nat.mul_le_mul_right _ (of_decide_eq_true tA : a0_0.toNat ≤ 35184372088832)) (by omega)) (Below.refl _ _) (Nat.le_refl _) ?_; intro v852 w7 ho8 hb hg_ hnew_; clear hg_ hnew_; (first | rw [← Ny851.out] at ho8 | (simp only [Int.reduceToNat] at ho8; rw [← Ny851.out] at ho8)); refine qM3 (Kd.R_lower ho8 (bQZ tB)) (tQ BK850.out hb) (bQT tB hb) ?_; clear BK850 HB; intro HO853 BK850 HB; clear hb ho8))
 go_loopg [13] k (fun kq v13 w' => ∃ (x5_1 : List Int) (x13_1 : Int), v13 = .int .i64 x13_1 ∧ Aq (impl_Field_fold.l0 kq x5_1 l1 (l1.length : Int) x13_1 a0_0 a0_1 = some r) ∧ Aq (kq ≤ k) ∧ Aq (Kd.R (Kd.int .i64) 2 w' w.heap.size (fun _ => True) v852 x5_1) ∧ Aq (w'.heap[gb850]? = some (.cells #[.int .i64 a0_0, .int .i64 a0_1] 27 (0, 0))) ∧ Aq (Below w.heap.size w w'))
 case atStart => exact ⟨(y851), (0), tS, H', ⟨Nat.le_refl _⟩, ⟨tR HO853.out⟩, ⟨tG BK850.out⟩, ⟨tB⟩⟩
 clear H'
 try clear c1
 try clear c3
 try clear c3b0
 try clear c3b1
 try clear c4
 try clear c4b0
 try clear c4b1
 try clear hcz6_0
 try clear hcz6_1
 try clear hfz6_0
 try clear hfz6_1
 obtain ⟨x5_1, x13_1, rfl, HA, HK1, HO_5, BK850, HB⟩ := hrel
 cases gk with
 | zero => exact absurd HA.out (by simp [impl_Field_fold.l0])
 | succ k1 =>
  have H := HA.out
  clear HA
  simp only [impl_Field_fold.l0] at H
  by_cases c9 : x13_1 < (l1.length : Int)
  rotate_left
  ·rw [if_neg c9] at H
   have c9b0 := decide_eq_false c9
   clear c9
   obtain ⟨t857, A21, H⟩ := qBd H
   obtain rfl := Option.some.inj H
   obtain ⟨Ao22, co22, eo22⟩ := Kd.R_slice HO_5.out
   subst eo22
   go_wp2_with (first | ((with_reducible refine gQc (f := 82) rfl ?_); refine goesL_ (some 30) rfl rfl Try.func82 (by kernel_rfl) rfl #[.slice Ao22 x5_1.length co22] rfl tL ?_; (with_reducible refine (impl_trim.calls k1 (fun k_ => some k_ = (.slice Ao22 x5_1.length co22 : Value).ownBlock) (.slice Ao22 x5_1.length co22) x5_1 t857 w _ ?s1 ?s2 A21.out).mono ?_); (case s1 => exact tB); (case s2 => exact Kd.R_tight rfl HO_5.out); rintro e w23 ⟨v858, rfl, ho0, hb, hkp⟩; refine ⟨_, rfl, ?_⟩; refine qM3 (blk_kept (tG BK850.out) hkp (fun hs_ => (fun e_ => (Kd.R_ne HO_5.out BK850.out (by decide)) e_) hs_)) (Kd.R_mono (ok' := fun k_ => True) ho0 (fun k_ hk_ => trivial)) hb ?_; clear BK850 HB HO_5; intro BK850 HO859 HB; (try clear hb); (try clear hkp); (try clear ho0)))
   go_ret
   exact ⟨_, tE, tR HO859.out, tB⟩
  rw [if_pos c9] at H
  have c9b0 := decide_eq_true c9
  clear c9
  by_cases c10 : 0 ≤ x13_1
  rotate_left
  ·rw [if_neg c10] at H
   exact absurd H (by simp)
  rw [if_pos c10] at H
  have c10b0 := decide_eq_true c10
  clear c10
  by_cases c11 : x13_1 < (l1.length : Int)
  rotate_left
  ·rw [if_neg c11] at H
   exact absurd H (by simp)
  rw [if_pos c11] at H
  have c11b0 := decide_eq_true c11
  clear c11
  by_cases c12 : a0_0 = 0
  ·rw [if_pos c12] at H
   exact absurd H (by simp)
  rw [if_neg c12] at H
  have c12b0 := beq_eq_false_iff_ne.mpr c12
  have c12b1 := bne_iff_ne.mpr c12
  obtain ⟨ji13, hji13⟩ : ∃ j_ : Int, (Int.tmod x13_1 a0_0) = j_ := ⟨_, rfl⟩
  first | rw [hji13] at H | simp only [hji13] at H | skip
  by_cases c14 : 0 ≤ (ji13)
  rotate_left
  ·rw [if_neg c14] at H
   exact absurd H (by simp)
  rw [if_pos c14] at H
  have c14b0 := decide_eq_true c14
  clear c14
  by_cases c15 : (ji13) < (x5_1.length : Int)
  rotate_left
  ·rw [if_neg c15] at H
   exact absurd H (by simp)
  rw [if_pos c15] at H
  have c15b0 := decide_eq_true c15
  clear c15
  obtain ⟨y856, hy856⟩ : ∃ y_ : List Int, y_ = (x5_1.set ((ji13) : Int).toNat (Go.bits .xor .i64 (rd x5_1 (ji13)) (rd l1 x13_1))) := ⟨_, rfl⟩
  replace H : (impl_Field_fold.l0 k1 y856 l1 (l1.length : Int) (wrap64 (x13_1 + 1)) a0_0 a0_1) = some r := by first | (rw [hy856]; with_reducible exact H) | (have H2_ := (Option.bind_some _ _).symm.trans H; rw [hy856]; with_reducible exact H2_) | (have H2_ := (Option.bind_some _ _).symm.trans H; with_reducible exact H2_) | with_reducible exact H | (rw [hy856]; exact H) | exact H
  have Ny856 := Aq.mk hy856
  clear hy856
  replace H' := Aq.mk H
  clear H
  have p854 : 0 ≤ (x13_1 : Int) := of_decide_eq_true tA
  have q854 : x13_1 < (l1.length : Int) := of_decide_eq_true tA
  obtain ⟨ad854, e854, hx854_0⟩ := Kd.at_int HR1.out x13_1 p854 q854
  cases e854
  replace hx854_0 := (HB.out.cell (World.block_lt_of_cell? w _ hx854_0)).trans hx854_0
  replace p854 := eq_true p854
  replace q854 := eq_true q854
  have hcz17_0 : wr.cell? ⟨gb850, 0, none⟩ = some (.int .i64 a0_0) := (kQC BK850.out 0).trans rfl
  have hcz17_1 : wr.cell? ⟨gb850, 1, none⟩ = some (.int .i64 a0_1) := (kQC BK850.out 1).trans rfl
  have hfz17_0 := kQF BK850.out 0
  have hfz17_1 := kQF BK850.out 1
  obtain ⟨Ao18, co18, eo18⟩ := Kd.R_slice HO_5.out
  subst eo18
  have p855 : 0 ≤ ((ji13) : Int) := of_decide_eq_true tA
  have q855 : (ji13) < (x5_1.length : Int) := of_decide_eq_true tA
  obtain ⟨ad855, e855, hx855_0⟩ := Kd.at_int (Kd.R_reads' HO_5.out).2.2 (ji13) p855 q855
  cases e855
  replace p855 := eq_true p855
  replace q855 := eq_true q855
  have p16 : 0 ≤ ((ji13) : Int) := of_decide_eq_true tA
  have q16 : ((ji13) : Int) < ((x5_1.length : Int) : Int) := of_decide_eq_true tA
  obtain ⟨go16, co16, eo16, gb16, gl16, cl16, HG16⟩ := Kd.R_form HO_5.out (by omega)
  (first | cases eo16 | (injection eo16 with ea_ en_ ec_; (first | subst ea_ | (injection ea_ with ea_; subst ea_)); subst ec_; clear en_))
  have GB16 := Aq.mk gb16
  have GG16 := Aq.mk HG16
  clear gb16 gl16 HG16
  (first | simp only [add_plain] at hx855_0 | skip)
  obtain ⟨hx16_0, hf16_0⟩ := Kd.R_celln 0 HO_5.out ((ji13) : Int) p16 q16
  replace p16 := eq_true p16
  replace q16 := eq_true q16
  have HP19 := Kd.R_putg HO_5.out ((ji13) : Int) (Go.bits .xor .i64 (rd x5_1 (ji13)) (rd l1 x13_1))
  go_wp2_with (first | ((with_reducible refine gate_store (t := 2) (p := 27) rfl ?_); refine store_event (t := 2) (p := 27) (v := ?vo_w20) (w1 := (wr.setCell ⟨go16, ((ji13) : Int).toNat, none⟩ (.int .i64 (Go.bits .xor .i64 (rd x5_1 (ji13)) (rd l1 x13_1))))) ?hg ?ho ?hn ?hr ?_; (case ho => rfl); (case hg => rfl); (case hn => rfl); (case hr => exact tH); intro w20 hw; have hg : wr.grownBy w20 (some go16) := (by rw [hw]; exact HP19.2); have hp_ : Kd.R (Kd.int .i64) 2 w20 w.heap.size (fun _ => True) (.slice (some ⟨go16, 0, none⟩) x5_1.length co18) y856 := (by rw [hw, Ny856.out]; exact HP19.1); clear HP19; refine qM3 hp_ (blk_grown (g := gb850) (o := .cells #[.int .i64 a0_0, .int .i64 a0_1] 27 (0, 0)) (tG BK850.out) hg (Kd.R_ne HO_5.out BK850.out (by decide))) ((by rw [hw]; exact bQS (HB.out) GB16.out : Below w.heap.size w w20)) ?_; clear HO_5 BK850 HB; intro HO_5 BK850 HB; clear hg hw hp_))
  go_roundg k1
  case measure => have := HK1.out; omega
  case rel => exact ⟨(y856), (wrap64 (x13_1 + 1)), tS, H', ⟨by have := HK1.out; omega⟩, ⟨tR HO_5.out⟩, ⟨tG BK850.out⟩, ⟨tB⟩⟩
def impl_FoldLinear.f (k : Nat) (a0_0 : Int) (a0_1 : Int) (l1 : List Int) : Option (List Int × Int) := (impl_Field_linearCode.f k a0_0 a0_1 (([l1] : List (List Int)))).bind fun t864 => (if t864 = 0 then ((impl_Field_fold.f k a0_0 a0_1 l1).bind fun t865 => (some (t865, 0))) else (some (([] : List Int), t864)))
theorem impl_FoldLinear.mono : ∀ a0 a1 a2 k, LeO (impl_FoldLinear.f k a0 a1 a2) (impl_FoldLinear.f (k + 1) a0 a1 a2) := by
 intro a0 a1 a2 k
 unfold impl_FoldLinear.f
 repeat' first
  | (with_reducible first | apply impl_Field_fold.mono | apply impl_Field_linearCode.mono | exact LeO.refl _ | exact LeO.none _ | refine LeO.ite ?_ ?_ | refine LeO.bind ?_ (fun _ => ?_))
  | exact LeO.none _
  | refine LeO.ite ?_ ?_
  | refine LeO.bind ?_ (fun _ => ?_)
theorem impl_FoldLinear.calls (k : Nat) (a0_0 : Int) (a0_1 : Int) (P1_ : Nat → Prop) (A1 : Option Addr) (c1 : Nat) (l1 : List Int) (r1 : List Int) (r2 : Int) (w : World) (hs1 : Kd.V (Kd.int .i64) 2 w w.heap.size (fun k_ => P1_ k_) (.slice A1 l1.length c1) l1) (h : impl_FoldLinear.f k a0_0 a0_1 l1 = some (r1, r2)) :
 Calls Try.prog 28 #[.agg #[.int .i64 a0_0, .int .i64 a0_1], .slice A1 l1.length c1] w fun e w' => ∃ v0_ : Value, e = .returned (.tuple #[v0_, .int .i64 r2]) ∧ Kd.R (Kd.int .i64) 2 w' w.heap.size (fun k_ => (w.heap.size ≤ k_)) v0_ r1 ∧ Below w.heap.size w w' := by
 have hu27 := Try.underlying27
 have HO1 := Aq.mk (show Kd.V (Kd.int .i64) 2 w w.heap.size (fun k_ => (P1_ k_ ∨ w.heap.size ≤ k_)) (.slice A1 l1.length c1) l1 from Kd.V_mono hs1 (fun k_ hk => .inl hk))
 have HB := Aq.mk (Below.refl w.heap.size w)
 have H : ((impl_Field_linearCode.f k a0_0 a0_1 (([l1] : List (List Int)))).bind fun t864 => (if t864 = 0 then ((impl_Field_fold.f k a0_0 a0_1 l1).bind fun t865 => (some (t865, 0))) else (some (([] : List Int), t864)))) = some (r1, r2) := h
 clear h
 obtain ⟨y861, hy861⟩ : ∃ y_ : List (List Int), y_ = (([l1] : List (List Int))) := ⟨_, rfl⟩
 replace H : ((impl_Field_linearCode.f k a0_0 a0_1 y861).bind fun t864 => (if t864 = 0 then ((impl_Field_fold.f k a0_0 a0_1 l1).bind fun t865 => (some (t865, 0))) else (some (([] : List Int), t864)))) = some (r1, r2) := by first | (rw [hy861]; with_reducible exact H) | (have H2_ := (Option.bind_some _ _).symm.trans H; rw [hy861]; with_reducible exact H2_) | (have H2_ := (Option.bind_some _ _).symm.trans H; with_reducible exact H2_) | with_reducible exact H | (rw [hy861]; exact H) | exact H
 have Ny861 := Aq.mk hy861
 clear hy861
 obtain ⟨t864, A3, H⟩ := qBd H
 by_cases c4 : t864 = 0
 rotate_left
 ·rw [if_neg c4] at H
  have c4b0 := beq_eq_false_iff_ne.mpr c4
  have c4b1 := bne_iff_ne.mpr c4
  simp only [Option.some.injEq, Prod.mk.injEq] at H
  obtain ⟨rfl, rfl⟩ := H
  go_enter Try.func28, Try.ntmps28
  go_wp2_with (first | ((with_reducible refine gQd (N := 2) rfl ?_); refine xQe ?hg (N := 2) ?hd (cs := #[.int .i64 a0_0, .int .i64 a0_1]) (t := 27) ?hr ?_; (case hd => rfl); (case hg => rfl); (case hr => exact tH); intro gb860 hg w14 hbox hb; refine qM5 (Kd.V_below (Kd.V_elderB (by (with_reducible repeat (first | apply Kd.V_alloc | apply Kd.V_drewN | apply Kd.V_drew)); exact HO1.out) gb860 (Nat.le_of_eq hg.symm)) hb) (bQT tB hb) hbox (tZ w hg) (tZ w hg) ?_; clear HO1 HB; intro HO1 HB BK860 GW860 GE860; clear hb hbox hg; have hcz15_0 : w14.cell? ⟨gb860, 0, none⟩ = some (.int .i64 a0_0) := (kQC BK860.out 0).trans rfl; have hcz15_1 : w14.cell? ⟨gb860, 1, none⟩ = some (.int .i64 a0_1) := (kQC BK860.out 1).trans rfl; have hfz15_0 := kQF BK860.out 0; have hfz15_1 := kQF BK860.out 1) | ((with_reducible refine gQd (N := 9) rfl ?_); refine Kd.N_lit (Kd.slice 2 (Kd.int .i64)) _ 24 ?hg (N' := 9) ?hd (xs := ([l1] : List (List Int))) (inner := [.slice A1 l1.length c1]) (ok := (fun k_ => (P1_ k_ ∨ w.heap.size ≤ k_) ∧ k_ ≠ gb860)) (okp := (fun k_ => (P1_ k_ ∨ w.heap.size ≤ k_) ∧ k_ ≠ gb860)) ?hr ?hp (fun _ hk => hk) ((show ∀ k_, w14.heap.size ≤ k_ → (fun k_ => (P1_ k_ ∨ w.heap.size ≤ k_) ∧ k_ ≠ gb860) k_ from fun k_ hk => ⟨(.inr (Nat.le_trans (bQZ tB) hk)), Kd.freshB (g := gb860) (o := .cells #[.int .i64 a0_0, .int .i64 a0_1] 27 (0, 0)) (tG BK860.out) k_ hk⟩) _ (Nat.le_refl _)) (Below.refl _ _) (Nat.le_refl _) (by simp) ?_; (case hd => rfl); (case hg => rfl); (case hr => exact tH); (case hp => exact (Reps.one (show Kd.FK (Kd.slice 2 (Kd.int .i64)) _ _ l1 [.slice A1 l1.length c1] from (Kd.FK_slice_mk (Kd.V_reads' (Kd.V_mono (ok' := (fun k_ => (P1_ k_ ∨ w.heap.size ≤ k_) ∧ k_ ≠ gb860)) (HO1.out) (fun k_ hk => ⟨hk.1, hk.2⟩))).2.1 (Kd.V_F (Kd.V_mono (ok' := (fun k_ => (P1_ k_ ∨ w.heap.size ≤ k_) ∧ k_ ≠ gb860)) (HO1.out) (fun k_ hk => ⟨hk.1, hk.2⟩))))) (Reps.none _ _))); intro v862 w16 ho17 hb hg_ hnew_; clear hg_ hnew_; (first | rw [← Ny861.out] at ho17 | (simp only [Int.reduceToNat] at ho17; rw [← Ny861.out] at ho17)); refine qM4 (Kd.V_elder' (by (with_reducible repeat (first | apply Kd.V_alloc | apply Kd.V_drewN | apply Kd.V_drew)); exact HO1.out) (Kd.N_base ho17) hb) (Kd.N_lower ho17 (bQZ tB)) (tQ BK860.out hb) (bQT tB hb) ?_; clear HO1 BK860 HB; intro HO1 HO863 BK860 HB; clear hb ho17; obtain ⟨Ao18, co18, eo18⟩ := Kd.N_slice HO863.out; subst eo18) | ((with_reducible refine gQc (f := 41) rfl ?_); refine goesL_ (some 10) rfl rfl Try.func41 (by kernel_rfl) rfl #[.agg #[.int .i64 a0_0, .int .i64 a0_1], .slice Ao18 y861.length co18] rfl tL ?_; (with_reducible refine (impl_Field_linearCode.calls k a0_0 a0_1 _ _ y861 t864 _ ?s1 ?s2 A3.out).mono ?_); (case s1 => exact tC ((Kd.N_reads' HO863.out).2.2)); (case s2 => exact (Kd.N_reads' HO863.out).2.1); rintro e w19 ⟨rfl, hb⟩; refine ⟨_, rfl, ?_⟩; refine qM4 (Kd.V_below (by (with_reducible repeat (first | apply Kd.V_alloc | apply Kd.V_drewN | apply Kd.V_drew)); exact HO1.out) hb) (Kd.N_below (by (with_reducible repeat (first | apply Kd.N_alloc | apply Kd.N_drewN | apply Kd.N_drew)); exact HO863.out) hb) (tQ BK860.out hb) (bQT tB hb) ?_; clear HO1 HO863 BK860 HB; intro HO1 HO863 BK860 HB; (try clear hb); (try clear hb2); (try clear hk); (try clear hi)))
  go_ret2
  exact ⟨_, tE, by first | exact Kd.R_nil _ _ _ _ _ | exact Kd.N_nil _ _ _ _ _ | exact Kd.V_nil _ _ _ _ _ | exact Kd.Q_nil _ _ _ _ _ | exact Kd.S_nil _ _ _ _ _, tB⟩
 rw [if_pos c4] at H
 have c4b0 := beq_iff_eq.mpr c4
 have c4b1 := bne_eq_false_iff_eq.mpr c4
 clear c4
 obtain ⟨t865, A5, H⟩ := qBd H
 simp only [Option.some.injEq, Prod.mk.injEq] at H
 obtain ⟨rfl, rfl⟩ := H
 go_enter Try.func28, Try.ntmps28
 go_wp2_with (first | ((with_reducible refine gQd (N := 2) rfl ?_); refine xQe ?hg (N := 2) ?hd (cs := #[.int .i64 a0_0, .int .i64 a0_1]) (t := 27) ?hr ?_; (case hd => rfl); (case hg => rfl); (case hr => exact tH); intro gb860 hg w6 hbox hb; refine qM5 (Kd.V_below (Kd.V_elderB (by (with_reducible repeat (first | apply Kd.V_alloc | apply Kd.V_drewN | apply Kd.V_drew)); exact HO1.out) gb860 (Nat.le_of_eq hg.symm)) hb) (bQT tB hb) hbox (tZ w hg) (tZ w hg) ?_; clear HO1 HB; intro HO1 HB BK860 GW860 GE860; clear hb hbox hg; have hcz7_0 : w6.cell? ⟨gb860, 0, none⟩ = some (.int .i64 a0_0) := (kQC BK860.out 0).trans rfl; have hcz7_1 : w6.cell? ⟨gb860, 1, none⟩ = some (.int .i64 a0_1) := (kQC BK860.out 1).trans rfl; have hfz7_0 := kQF BK860.out 0; have hfz7_1 := kQF BK860.out 1) | ((with_reducible refine gQd (N := 9) rfl ?_); refine Kd.N_lit (Kd.slice 2 (Kd.int .i64)) _ 24 ?hg (N' := 9) ?hd (xs := ([l1] : List (List Int))) (inner := [.slice A1 l1.length c1]) (ok := (fun k_ => (P1_ k_ ∨ w.heap.size ≤ k_) ∧ k_ ≠ gb860)) (okp := (fun k_ => (P1_ k_ ∨ w.heap.size ≤ k_) ∧ k_ ≠ gb860)) ?hr ?hp (fun _ hk => hk) ((show ∀ k_, w6.heap.size ≤ k_ → (fun k_ => (P1_ k_ ∨ w.heap.size ≤ k_) ∧ k_ ≠ gb860) k_ from fun k_ hk => ⟨(.inr (Nat.le_trans (bQZ tB) hk)), Kd.freshB (g := gb860) (o := .cells #[.int .i64 a0_0, .int .i64 a0_1] 27 (0, 0)) (tG BK860.out) k_ hk⟩) _ (Nat.le_refl _)) (Below.refl _ _) (Nat.le_refl _) (by simp) ?_; (case hd => rfl); (case hg => rfl); (case hr => exact tH); (case hp => exact (Reps.one (show Kd.FK (Kd.slice 2 (Kd.int .i64)) _ _ l1 [.slice A1 l1.length c1] from (Kd.FK_slice_mk (Kd.V_reads' (Kd.V_mono (ok' := (fun k_ => (P1_ k_ ∨ w.heap.size ≤ k_) ∧ k_ ≠ gb860)) (HO1.out) (fun k_ hk => ⟨hk.1, hk.2⟩))).2.1 (Kd.V_F (Kd.V_mono (ok' := (fun k_ => (P1_ k_ ∨ w.heap.size ≤ k_) ∧ k_ ≠ gb860)) (HO1.out) (fun k_ hk => ⟨hk.1, hk.2⟩))))) (Reps.none _ _))); intro v862 w8 ho9 hb hg_ hnew_; clear hg_ hnew_; (first | rw [← Ny861.out] at ho9 | (simp only [Int.reduceToNat] at ho9; rw [← Ny861.out] at ho9)); refine qM4 (Kd.V_elder' (by (with_reducible repeat (first | apply Kd.V_alloc | apply Kd.V_drewN | apply Kd.V_drew)); exact HO1.out) (Kd.N_base ho9) hb) (Kd.N_lower ho9 (bQZ tB)) (tQ BK860.out hb) (bQT tB hb) ?_; clear HO1 BK860 HB; intro HO1 HO863 BK860 HB; clear hb ho9; obtain ⟨Ao10, co10, eo10⟩ := Kd.N_slice HO863.out; subst eo10) | ((with_reducible refine gQc (f := 41) rfl ?_); refine goesL_ (some 10) rfl rfl Try.func41 (by kernel_rfl) rfl #[.agg #[.int .i64 a0_0, .int .i64 a0_1], .slice Ao10 y861.length co10] rfl tL ?_; (with_reducible refine (impl_Field_linearCode.calls k a0_0 a0_1 _ _ y861 t864 _ ?s1 ?s2 A3.out).mono ?_); (case s1 => exact tC ((Kd.N_reads' HO863.out).2.2)); (case s2 => exact (Kd.N_reads' HO863.out).2.1); rintro e w11 ⟨rfl, hb⟩; refine ⟨_, rfl, ?_⟩; refine qM4 (Kd.V_below (by (with_reducible repeat (first | apply Kd.V_alloc | apply Kd.V_drewN | apply Kd.V_drew)); exact HO1.out) hb) (Kd.N_below (by (with_reducible repeat (first | apply Kd.N_alloc | apply Kd.N_drewN | apply Kd.N_drew)); exact HO863.out) hb) (tQ BK860.out hb) (bQT tB hb) ?_; clear HO1 HO863 BK860 HB; intro HO1 HO863 BK860 HB; (try clear hb); (try clear hb2); (try clear hk); (try clear hi); have hcz12_0 : w11.cell? ⟨gb860, 0, none⟩ = some (.int .i64 a0_0) := (kQC BK860.out 0).trans rfl; have hcz12_1 : w11.cell? ⟨gb860, 1, none⟩ = some (.int .i64 a0_1) := (kQC BK860.out 1).trans rfl; have hfz12_0 := kQF BK860.out 0; have hfz12_1 := kQF BK860.out 1) | ((with_reducible refine gQc (f := 52) rfl ?_); refine goesL_ (some 16) rfl rfl Try.func52 (by kernel_rfl) rfl #[.agg #[.int .i64 a0_0, .int .i64 a0_1], .slice A1 l1.length c1] rfl tL ?_; (with_reducible refine (impl_Field_fold.calls k a0_0 a0_1 _ _ l1 t865 _ ?s1 ?s2 A5.out).mono ?_); (case s1 => exact tC ((Kd.V_reads' HO1.out).2.2)); (case s2 => exact (Kd.V_reads' HO1.out).2.1); rintro e w13 ⟨v866, rfl, ho0, hb⟩; refine ⟨_, rfl, ?_⟩; refine qM5 (Kd.V_elder' (by (with_reducible repeat (first | apply Kd.V_alloc | apply Kd.V_drewN | apply Kd.V_drew)); exact HO1.out) (Kd.R_base ho0) hb) (Kd.N_elder' (by (with_reducible repeat (first | apply Kd.N_alloc | apply Kd.N_drewN | apply Kd.N_drew)); exact HO863.out) (Kd.R_base ho0) hb) (Kd.R_lower (Kd.R_newM (M := fun k_ => (w.heap.size ≤ k_)) ho0 (bQZ tB) (fun k_ h_ => h_)) (bQZ tB)) (tQ BK860.out hb) (bQT tB hb) ?_; clear HO1 HO863 BK860 HB; intro HO1 HO863 HO867 BK860 HB; (try clear hb); (try clear hb2); (try clear hk); (try clear hi); (try clear ho0)))
 go_ret2
 exact ⟨_, tE, by (with_reducible repeat (first | apply Kd.RqA | apply Kd.RqN | apply Kd.RqD)); exact Kd.R_mono HO867.out (fun _ hk => hk.1), tB⟩
def impl_Field_all.l0 : Nat → List Int → Int → Int → Option (List Int)
  | 0, _, _, _ => none
  | k + 1, x3, x7, x8 => if x8 < x7 then (if x3.length < 17592186044416 then (impl_Field_all.l0 k (x3 ++ [x8]) x7 (wrap64 (x8 + 1))) else (none)) else (some x3)
def impl_Field_all.f (k : Nat) (a0_0 : Int) (a0_1 : Int) : Option (List Int) := (impl_Field_count.f a0_0 a0_1).bind fun t872 => (impl_Field_all.l0 k (([] : List Int)) t872 0)
theorem impl_Field_all.mono_l : ∀ k, (∀ y0 y1 y2, LeO (impl_Field_all.l0 k y0 y1 y2) (impl_Field_all.l0 (k + 1) y0 y1 y2))
 | 0 => fun _ _ _ r h => by simp [impl_Field_all.l0] at h
 | k + 1 => by
  have ih0 := impl_Field_all.mono_l k
  ·intro y0 y1 y2
   unfold impl_Field_all.l0
   repeat' first
   | (with_reducible first | apply ih0 | exact LeO.refl _ | exact LeO.none _ | refine LeO.ite ?_ ?_ | refine LeO.bind ?_ (fun _ => ?_))
   | exact LeO.none _
   | refine LeO.ite ?_ ?_
   | refine LeO.bind ?_ (fun _ => ?_)
theorem impl_Field_all.mono : ∀ a0 a1 k, LeO (impl_Field_all.f k a0 a1) (impl_Field_all.f (k + 1) a0 a1) := by
 intro a0 a1 k
 have ih0 := impl_Field_all.mono_l k
 unfold impl_Field_all.f
 repeat' first
  | (with_reducible first | apply ih0 | exact LeO.refl _ | exact LeO.none _ | refine LeO.ite ?_ ?_ | refine LeO.bind ?_ (fun _ => ?_))
  | exact LeO.none _
  | refine LeO.ite ?_ ?_
  | refine LeO.bind ?_ (fun _ => ?_)
theorem impl_Field_all.calls (k : Nat) (a0_0 : Int) (a0_1 : Int) (r : List Int) (w : World) (h : impl_Field_all.f k a0_0 a0_1 = some r) :
 Calls Try.prog 54 #[.agg #[.int .i64 a0_0, .int .i64 a0_1]] w fun e w' => ∃ v0_ : Value, e = .returned (v0_) ∧ Kd.R (Kd.int .i64) 2 w' w.heap.size (fun _ => True) v0_ r ∧ Below w.heap.size w w' := by
 have hu27 := Try.underlying27
 have HB := Aq.mk (Below.refl w.heap.size w)
 have H : ((impl_Field_count.f a0_0 a0_1).bind fun t872 => (impl_Field_all.l0 k (([] : List Int)) t872 0)) = some r := h
 clear h
 obtain ⟨y869, hy869⟩ : ∃ y_ : List Int, y_ = (([] : List Int)) := ⟨_, rfl⟩
 replace H : ((impl_Field_count.f a0_0 a0_1).bind fun t872 => (impl_Field_all.l0 k y869 t872 0)) = some r := by first | (rw [hy869]; with_reducible exact H) | (have H2_ := (Option.bind_some _ _).symm.trans H; rw [hy869]; with_reducible exact H2_) | (have H2_ := (Option.bind_some _ _).symm.trans H; with_reducible exact H2_) | with_reducible exact H | (rw [hy869]; exact H) | exact H
 have Ny869 := Aq.mk hy869
 clear hy869
 obtain ⟨t872, A2, H⟩ := qBd H
 replace H' := Aq.mk H
 clear H
 go_enter Try.func54, Try.ntmps54
 go_wp2_with (first | ((with_reducible refine gQd (N := 1) rfl ?_); refine xQe ?hg (N := 1) ?hd (cs := #[.int .i64 a0_0, .int .i64 a0_1]) (t := 27) ?hr ?_; (case hd => rfl); (case hg => rfl); (case hr => exact tH); intro gb868 hg w3 hbox hb; refine qM4 (bQT tB hb) hbox (tZ w hg) (tZ w hg) ?_; clear HB; intro HB BK868 GW868 GE868; clear hb hbox hg) | ((with_reducible refine gQd (N := 5) rfl ?_); refine Kd.R_lit (Kd.int .i64) _ 2 ?hg (N := 5) ?hd (xs := ([] : List Int)) (inner := []) (ok := fun _ => True) (okp := fun _ => True) ?hr ?hp (fun _ hk => hk) trivial (Below.refl _ _) (Nat.le_refl _) (by simp) ?_; (case hd => rfl); (case hg => rfl); (case hr => exact tH); (case hp => exact (Reps.none _ _)); intro v870 w4 ho5 hb hg_ hnew_; clear hg_ hnew_; (first | rw [← Ny869.out] at ho5 | (simp only [Int.reduceToNat] at ho5; rw [← Ny869.out] at ho5)); refine qM3 (Kd.R_lower ho5 (bQZ tB)) (tQ BK868.out hb) (bQT tB hb) ?_; clear BK868 HB; intro HO871 BK868 HB; clear hb ho5; have hcz6_0 : w4.cell? ⟨gb868, 0, none⟩ = some (.int .i64 a0_0) := (kQC BK868.out 0).trans rfl; have hcz6_1 : w4.cell? ⟨gb868, 1, none⟩ = some (.int .i64 a0_1) := (kQC BK868.out 1).trans rfl; have hfz6_0 := kQF BK868.out 0; have hfz6_1 := kQF BK868.out 1) | ((with_reducible refine gQc (f := 89) rfl ?_); refine goesL_ (some 7) rfl rfl Try.func89 (by kernel_rfl) rfl #[.agg #[.int .i64 a0_0, .int .i64 a0_1]] rfl tL ?_; (with_reducible refine (impl_Field_count.calls a0_0 a0_1 t872 _ A2.out).mono ?_); rintro e w7 ⟨rfl, hb⟩; refine ⟨_, rfl, ?_⟩; refine qM3 (Kd.R_below (tR HO871.out) hb) (tQ BK868.out hb) (bQT tB hb) ?_; clear HO871 BK868 HB; intro HO871 BK868 HB; (try clear hb); (try clear hb2); (try clear hk); (try clear hi)))
 go_loopg [3, 8] k (fun kq v3 v8 w' => ∃ (x3_1 : List Int) (x8_1 : Int), v8 = .int .i64 x8_1 ∧ Aq (impl_Field_all.l0 kq x3_1 t872 x8_1 = some r) ∧ Aq (kq ≤ k) ∧ Aq (Kd.R (Kd.int .i64) 2 w' w.heap.size (fun _ => True) v3 x3_1) ∧ Aq (w'.heap[gb868]? = some (.cells #[.int .i64 a0_0, .int .i64 a0_1] 27 (0, 0))) ∧ Aq (Below w.heap.size w w'))
 case atStart => exact ⟨(y869), (0), tS, H', ⟨Nat.le_refl _⟩, ⟨tR HO871.out⟩, ⟨tG BK868.out⟩, ⟨tB⟩⟩
 clear H'
 try clear hcz6_0
 try clear hcz6_1
 try clear hfz6_0
 try clear hfz6_1
 obtain ⟨x3_1, x8_1, rfl, HA, HK1, HO_3, BK868, HB⟩ := hrel
 cases gk with
 | zero => exact absurd HA.out (by simp [impl_Field_all.l0])
 | succ k1 =>
  have H := HA.out
  clear HA
  simp only [impl_Field_all.l0] at H
  by_cases c8 : x8_1 < t872
  rotate_left
  ·rw [if_neg c8] at H
   have c8b0 := decide_eq_false c8
   clear c8
   obtain rfl := Option.some.inj H
   go_wp2
   go_ret
   exact ⟨_, tE, tR HO_3.out, tB⟩
  rw [if_pos c8] at H
  have c8b0 := decide_eq_true c8
  clear c8
  by_cases c9 : x3_1.length < 17592186044416
  rotate_left
  ·rw [if_neg c9] at H
   exact absurd H (by simp)
  rw [if_pos c9] at H
  have LMc9 := Aq.mk c9
  clear c9
  obtain ⟨y873, hy873⟩ : ∃ y_ : List Int, y_ = (x3_1 ++ [x8_1]) := ⟨_, rfl⟩
  replace H : (impl_Field_all.l0 k1 y873 t872 (wrap64 (x8_1 + 1))) = some r := by first | (rw [hy873]; with_reducible exact H) | (have H2_ := (Option.bind_some _ _).symm.trans H; rw [hy873]; with_reducible exact H2_) | (have H2_ := (Option.bind_some _ _).symm.trans H; with_reducible exact H2_) | with_reducible exact H | (rw [hy873]; exact H) | exact H
  have Ny873 := Aq.mk hy873
  clear hy873
  replace H' := Aq.mk H
  clear H
  go_wp2_with (first | ((with_reducible refine gate_builtin (b := .append) (xs := #[.tmp 11, .tmp 13]) rfl ?_); at_builtin; refine Kd.R_append (Kd.int .i64) (w0 := w) w.heap.size rfl (.tmp 11) (.tmp 13) 24 2 (.int .i64 0) 8 rfl Try.underlying24 info2 rfl (by decide) (by omega) u3 x3_1 x8_1 [.int .i64 x8_1] (fun _ => True) (fun _ => False) rfl rfl ?aP (fun _ hk => hk.elim) ?aF ?aO ?aB ?aS ?aL ?_; (case aP => exact rfl); (case aB => exact tB); (case aF => exact (fun _ _ => trivial)); (case aO => exact (tR HO_3.out)); (case aS => exact (bQZ tB)); (case aL => have := LMc9.out; omega); intro v874 w10 ho hb hg hat; rw [← Ny873.out] at ho; refine qM3 (blk_grown (g := gb868) (o := .cells #[.int .i64 a0_0, .int .i64 a0_1] 27 (0, 0)) (tG BK868.out) hg (Kd.R_ne HO_3.out BK868.out (by decide))) hb ho ?_; clear BK868 HB HO_3; intro BK868 HB HO875; clear ho hb hg hat))
  go_roundg k1
  case measure => have := HK1.out; omega
  case rel => exact ⟨(y873), (wrap64 (x8_1 + 1)), tS, H', ⟨by have := HK1.out; omega⟩, ⟨tR HO875.out⟩, ⟨tG BK868.out⟩, ⟨tB⟩⟩
def impl_RootsOf_1.f (k : Nat) (a0 : Int) (a1_0 : Int) (a1_1 : Int) (l2_0 : List Int) : Option (Bool) := (impl_Field_value.f k a1_0 a1_1 l2_0 a0).bind fun t876 => (some (t876 != 0))
theorem impl_RootsOf_1.mono : ∀ a0 a1 a2 a3 k, LeO (impl_RootsOf_1.f k a0 a1 a2 a3) (impl_RootsOf_1.f (k + 1) a0 a1 a2 a3) := by
 intro a0 a1 a2 a3 k
 unfold impl_RootsOf_1.f
 repeat' first
  | (with_reducible first | apply impl_Field_value.mono | exact LeO.refl _ | exact LeO.none _ | refine LeO.ite ?_ ?_ | refine LeO.bind ?_ (fun _ => ?_))
  | exact LeO.none _
  | refine LeO.ite ?_ ?_
  | refine LeO.bind ?_ (fun _ => ?_)
theorem impl_RootsOf_1.calls (k : Nat) (a0 : Int) (g1_0 : Addr) (a1_0 : Int) (a1_1 : Int) (g2_0 : Addr) (A2_0 : Option Addr) (c2_0 : Nat) (l2_0 : List Int) (r : Bool) (w : World) (hr2_0 : Kd.C (Kd.int .i64) w A2_0 l2_0.length l2_0) (hc2_0 : l2_0.length ≤ c2_0) (hb1_0 : AtC w g1_0 [.int .i64 a1_0, .int .i64 a1_1]) (hb2_0 : AtC w g2_0 [.slice A2_0 l2_0.length c2_0]) (h : impl_RootsOf_1.f k a0 a1_0 a1_1 l2_0 = some r) :
 Calls Try.prog 55 #[.int .i64 a0, .pointer (some g1_0), .pointer (some g2_0)] w fun e w' => e = .returned (.bool r) ∧ Below w.heap.size w w' := by
 have hu27 := Try.underlying27
 have HR2_0 := Aq.mk hr2_0
 have HC2_0 := Aq.mk hc2_0
 clear hr2_0 hc2_0
 have BK48 := Aq.mk hb1_0
 clear hb1_0
 have BK56 := Aq.mk hb2_0
 clear hb2_0
 have HB := Aq.mk (Below.refl w.heap.size w)
 have H : ((impl_Field_value.f k a1_0 a1_1 l2_0 a0).bind fun t876 => (some (t876 != 0))) = some r := h
 clear h
 obtain ⟨t876, A4, H⟩ := qBd H
 obtain rfl := Option.some.inj H
 have hcz5_0 : w.cell? g1_0 = some (.int .i64 a1_0) := AtC.cell0 BK48.out _ rfl
 have hcz5_1 : w.cell? ⟨g1_0.block, g1_0.off + 1, none⟩ = some (.int .i64 a1_1) := AtC.cell BK48.out 1 _ (by decide) rfl
 have hcz6_0 : w.cell? g2_0 = some (.slice A2_0 l2_0.length c2_0) := AtC.cell0 BK56.out _ rfl
 go_enter Try.func55, Try.ntmps55
 go_wp2_with (first | ((with_reducible refine gQc (f := 51) rfl ?_); refine goesL_ (some 8) rfl rfl Try.func51 (by kernel_rfl) rfl #[.agg #[.int .i64 a1_0, .int .i64 a1_1], .slice A2_0 l2_0.length c2_0, .int .i64 a0] rfl tL ?_; (with_reducible refine (impl_Field_value.calls k a1_0 a1_1 _ _ l2_0 a0 t876 _ ?s1 ?s2 A4.out).mono ?_); (case s1 => exact tC HR2_0.out); (case s2 => exact HC2_0.out); rintro e w7 ⟨rfl, hb⟩; refine ⟨_, rfl, ?_⟩; refine qM1 (bQT tB hb) ?_; clear HB; intro HB; (try clear hb); (try clear hb2); (try clear hk); (try clear hi)))
 go_ret
 exact ⟨tE, tB⟩
def slices_IndexFunc_int64_int64_AT_impl_RootsOf_1.l0 : Nat → List Int → Int → Int → Int → Int → List Int → Option (Int)
  | 0, _, _, _, _, _, _ => none
  | k + 1, x0, x7, x8, x49000, x49001, x50000 => if x8 < x7 then (if 0 ≤ x8 then (if x8 < (x0.length : Int) then ((impl_RootsOf_1.f k (rd x0 x8) x49000 x49001 x50000).bind fun t878 => (if t878 = true then (some x8) else (slices_IndexFunc_int64_int64_AT_impl_RootsOf_1.l0 k x0 x7 (wrap64 (x8 + 1)) x49000 x49001 x50000))) else (none)) else (none)) else (some (-1))
def slices_IndexFunc_int64_int64_AT_impl_RootsOf_1.f (k : Nat) (l0 : List Int) (a1_0 : Int) (a1_1 : Int) (l1_2 : List Int) : Option (Int) := slices_IndexFunc_int64_int64_AT_impl_RootsOf_1.l0 k l0 (l0.length : Int) 0 a1_0 a1_1 l1_2
theorem slices_IndexFunc_int64_int64_AT_impl_RootsOf_1.mono_l : ∀ k, (∀ y0 y1 y2 y3 y4 y5, LeO (slices_IndexFunc_int64_int64_AT_impl_RootsOf_1.l0 k y0 y1 y2 y3 y4 y5) (slices_IndexFunc_int64_int64_AT_impl_RootsOf_1.l0 (k + 1) y0 y1 y2 y3 y4 y5))
 | 0 => fun _ _ _ _ _ _ r h => by simp [slices_IndexFunc_int64_int64_AT_impl_RootsOf_1.l0] at h
 | k + 1 => by
  have ih0 := slices_IndexFunc_int64_int64_AT_impl_RootsOf_1.mono_l k
  ·intro y0 y1 y2 y3 y4 y5
   unfold slices_IndexFunc_int64_int64_AT_impl_RootsOf_1.l0
   repeat' first
   | (with_reducible first | apply ih0 | apply impl_RootsOf_1.mono | exact LeO.refl _ | exact LeO.none _ | refine LeO.ite ?_ ?_ | refine LeO.bind ?_ (fun _ => ?_))
   | exact LeO.none _
   | refine LeO.ite ?_ ?_
   | refine LeO.bind ?_ (fun _ => ?_)
theorem slices_IndexFunc_int64_int64_AT_impl_RootsOf_1.mono : ∀ a0 a1 a2 a3 k, LeO (slices_IndexFunc_int64_int64_AT_impl_RootsOf_1.f k a0 a1 a2 a3) (slices_IndexFunc_int64_int64_AT_impl_RootsOf_1.f (k + 1) a0 a1 a2 a3) := by
 intro a0 a1 a2 a3 k
 have ih0 := slices_IndexFunc_int64_int64_AT_impl_RootsOf_1.mono_l k
 unfold slices_IndexFunc_int64_int64_AT_impl_RootsOf_1.f
 repeat' first
  | (with_reducible first | apply ih0 | apply impl_RootsOf_1.mono | exact LeO.refl _ | exact LeO.none _ | refine LeO.ite ?_ ?_ | refine LeO.bind ?_ (fun _ => ?_))
  | exact LeO.none _
  | refine LeO.ite ?_ ?_
  | refine LeO.bind ?_ (fun _ => ?_)
theorem slices_IndexFunc_int64_int64_AT_impl_RootsOf_1.calls (k : Nat) (A0 : Option Addr) (c0 : Nat) (l0 : List Int) (g1_0 : Addr) (g1_1 : Addr) (a1_0 : Int) (a1_1 : Int) (A1_2 : Option Addr) (c1_2 : Nat) (l1_2 : List Int) (r : Int) (w : World) (hr0 : Kd.C (Kd.int .i64) w A0 l0.length l0) (hc0 : l0.length ≤ c0) (hr1_2 : Kd.C (Kd.int .i64) w A1_2 l1_2.length l1_2) (hc1_2 : l1_2.length ≤ c1_2) (hb1_0 : AtC w g1_0 [.int .i64 a1_0, .int .i64 a1_1]) (hb1_1 : AtC w g1_1 [.slice A1_2 l1_2.length c1_2]) (h : slices_IndexFunc_int64_int64_AT_impl_RootsOf_1.f k l0 a1_0 a1_1 l1_2 = some r) :
 Calls Try.prog 90 #[.slice A0 l0.length c0, .func (.func 55) #[] #[.pointer (some g1_0), .pointer (some g1_1)]] w fun e w' => e = .returned (.int .i64 r) ∧ Below w.heap.size w w' := by
 have eg55 : ∀ (args_ : Array Value) (w_ : World), (callFunc 55 args_).run Try.prog w_ = .ok (.enter 55 args_) w_ := enters_of Try.func55 (by kernel_rfl) rfl
 have HR0 := Aq.mk hr0
 have HC0 := Aq.mk hc0
 clear hr0 hc0
 have HR1_2 := Aq.mk hr1_2
 have HC1_2 := Aq.mk hc1_2
 clear hr1_2 hc1_2
 have BK48 := Aq.mk hb1_0
 clear hb1_0
 have BK49 := Aq.mk hb1_1
 clear hb1_1
 have HB := Aq.mk (Below.refl w.heap.size w)
 have H : (slices_IndexFunc_int64_int64_AT_impl_RootsOf_1.l0 k l0 (l0.length : Int) 0 a1_0 a1_1 l1_2) = some r := h
 clear h
 replace H' := Aq.mk H
 clear H
 go_enter Try.func90, Try.ntmps90
 go_wp2
 go_loopg [8] k (fun kq v8 w' => ∃ (x8_1 : Int), v8 = .int .i64 x8_1 ∧ Aq (slices_IndexFunc_int64_int64_AT_impl_RootsOf_1.l0 kq l0 (l0.length : Int) x8_1 a1_0 a1_1 l1_2 = some r) ∧ Aq (kq ≤ k) ∧ Aq (Below w.heap.size w w'))
 case atStart => exact ⟨(0), tS, H', ⟨Nat.le_refl _⟩, ⟨tB⟩⟩
 clear H'
 obtain ⟨x8_1, rfl, HA, HK1, HB⟩ := hrel
 cases gk with
 | zero => exact absurd HA.out (by simp [slices_IndexFunc_int64_int64_AT_impl_RootsOf_1.l0])
 | succ k1 =>
  have H := HA.out
  clear HA
  simp only [slices_IndexFunc_int64_int64_AT_impl_RootsOf_1.l0] at H
  by_cases c3 : x8_1 < (l0.length : Int)
  rotate_left
  ·rw [if_neg c3] at H
   have c3b0 := decide_eq_false c3
   clear c3
   obtain rfl := Option.some.inj H
   go_wp2
   go_ret
   exact ⟨tE, tB⟩
  rw [if_pos c3] at H
  have c3b0 := decide_eq_true c3
  clear c3
  by_cases c4 : 0 ≤ x8_1
  rotate_left
  ·rw [if_neg c4] at H
   exact absurd H (by simp)
  rw [if_pos c4] at H
  have c4b0 := decide_eq_true c4
  clear c4
  by_cases c5 : x8_1 < (l0.length : Int)
  rotate_left
  ·rw [if_neg c5] at H
   exact absurd H (by simp)
  rw [if_pos c5] at H
  have c5b0 := decide_eq_true c5
  clear c5
  obtain ⟨t878, A6, H⟩ := qBd H
  by_cases c7 : t878 = true
  ·subst c7
   rw [if_pos rfl] at H
   obtain rfl := Option.some.inj H
   have p877 : 0 ≤ (x8_1 : Int) := of_decide_eq_true tA
   have q877 : x8_1 < (l0.length : Int) := of_decide_eq_true tA
   obtain ⟨ad877, e877, hx877_0⟩ := Kd.at_int HR0.out x8_1 p877 q877
   cases e877
   replace hx877_0 := (HB.out.cell (World.block_lt_of_cell? w _ hx877_0)).trans hx877_0
   replace p877 := eq_true p877
   replace q877 := eq_true q877
   go_wp2_with (first | (go_at_fn 55; (with_reducible refine (impl_RootsOf_1.calls k1 (rd l0 x8_1) (g1_0 : Addr) a1_0 a1_1 (g1_1 : Addr) A1_2 c1_2 l1_2 true _ ?s1 ?s2 ?s3 ?s4 A6.out).mono ?_); (case s1 => exact tC ((Kd.C_below HR1_2.out HB.out))); (case s2 => exact HC1_2.out); (case s3 => repeat (first | exact (AtC.below BK48.out HB.out) | (with_reducible refine AtC.alloc ?_ _) | (with_reducible refine AtC.drewN ?_ _) | (with_reducible refine AtC.drew ?_))); (case s4 => repeat (first | exact (AtC.below BK49.out HB.out) | (with_reducible refine AtC.alloc ?_ _) | (with_reducible refine AtC.drewN ?_ _) | (with_reducible refine AtC.drew ?_))); rintro e w8 ⟨rfl, hb⟩; refine qM1 (bQT tB hb) ?_; clear HB; intro HB; (try clear hb); (try clear hb2); (try clear hk); (try clear hi)))
   go_ret
   exact ⟨tE, tB⟩
  replace c7 := Bool.eq_false_iff.mpr c7
  subst c7
  rw [if_neg (show ¬ (false = true) by decide)] at H
  replace H' := Aq.mk H
  clear H
  have p877 : 0 ≤ (x8_1 : Int) := of_decide_eq_true tA
  have q877 : x8_1 < (l0.length : Int) := of_decide_eq_true tA
  obtain ⟨ad877, e877, hx877_0⟩ := Kd.at_int HR0.out x8_1 p877 q877
  cases e877
  replace hx877_0 := (HB.out.cell (World.block_lt_of_cell? w _ hx877_0)).trans hx877_0
  replace p877 := eq_true p877
  replace q877 := eq_true q877
  go_wp2_with (first | (go_at_fn 55; (with_reducible refine (impl_RootsOf_1.calls k1 (rd l0 x8_1) (g1_0 : Addr) a1_0 a1_1 (g1_1 : Addr) A1_2 c1_2 l1_2 false _ ?s1 ?s2 ?s3 ?s4 A6.out).mono ?_); (case s1 => exact tC ((Kd.C_below HR1_2.out HB.out))); (case s2 => exact HC1_2.out); (case s3 => repeat (first | exact (AtC.below BK48.out HB.out) | (with_reducible refine AtC.alloc ?_ _) | (with_reducible refine AtC.drewN ?_ _) | (with_reducible refine AtC.drew ?_))); (case s4 => repeat (first | exact (AtC.below BK49.out HB.out) | (with_reducible refine AtC.alloc ?_ _) | (with_reducible refine AtC.drewN ?_ _) | (with_reducible refine AtC.drew ?_))); rintro e w9 ⟨rfl, hb⟩; refine qM1 (bQT tB hb) ?_; clear HB; intro HB; (try clear hb); (try clear hb2); (try clear hk); (try clear hi)))
  go_roundg k1
  case measure => have := HK1.out; omega
  case rel => exact ⟨(wrap64 (x8_1 + 1)), tS, H', ⟨by have := HK1.out; omega⟩, ⟨tB⟩⟩
end Go.Proofs.Ytkhjoomjjdgkjaa.P
