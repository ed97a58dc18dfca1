/- Functions of the program and what they tell, as the printing program wrote it. -/
import Derived.Test.YthjfilmdobkmlaaPx0
import Derived.Test.YthjfilmdobkmlaaPx12
import Derived.Test.YthjfilmdobkmlaaPx28
namespace Go.Proofs.Ythjfilmdobkmlaa.P
open Go.Shelf Go.RowKit Go.Proofs.YthjfilmdobkmlaaW.PrintWords Go.Proofs.YthjfilmdobkmlaaW.PrintLast Go.Proofs.YthjfilmdobkmlaaW.PrintMore
attribute [local go_sem] max2_int min2_int max_two min_two max_three min_three max_four min_four
set_option linter.unusedVariables false
set_option linter.unusedSimpArgs false
set_option maxHeartbeats 8000000
set_option maxRecDepth 100000
def spec_ValidNet.f (k : Nat) (a0_0 : Int) (a0_1 : Int) (a0_2 : Int) (a0_3 : Int) (l0_4 : List (List Int)) (l0_5 : List (List Int)) : Option (Bool) := (spec_l07Ok.f k a0_0 a0_1 a0_2 a0_3 l0_4 l0_5).bind fun t652 => (some t652)
theorem spec_ValidNet.mono : ∀ a0 a1 a2 a3 a4 a5 k, LeO (spec_ValidNet.f k a0 a1 a2 a3 a4 a5) (spec_ValidNet.f (k + 1) a0 a1 a2 a3 a4 a5) := by
 intro a0 a1 a2 a3 a4 a5 k
 unfold spec_ValidNet.f
 repeat' first
  | (with_reducible first | apply spec_l07Ok.mono | exact LeO.refl _ | exact LeO.none _ | refine LeO.ite ?_ ?_ | refine LeO.bind ?_ (fun _ => ?_))
  | exact LeO.none _
  | refine LeO.ite ?_ ?_
  | refine LeO.bind ?_ (fun _ => ?_)
theorem spec_ValidNet.calls (k : Nat) (a0_0 : Int) (a0_1 : Int) (a0_2 : Int) (a0_3 : Int) (A0_4 : Option Addr) (c0_4 : Nat) (l0_4 : List (List Int)) (A0_5 : Option Addr) (c0_5 : Nat) (l0_5 : List (List Int)) (r : Bool) (w : World) (hr0_4 : Kd.C (Kd.slice 2 (Kd.int .i64)) w A0_4 l0_4.length l0_4) (hc0_4 : l0_4.length ≤ c0_4) (hr0_5 : Kd.C (Kd.slice 2 (Kd.int .i64)) w A0_5 l0_5.length l0_5) (hc0_5 : l0_5.length ≤ c0_5) (h : spec_ValidNet.f k a0_0 a0_1 a0_2 a0_3 l0_4 l0_5 = some r) :
 Calls Try.prog 27 #[.agg #[.int .i64 a0_0, .int .i64 a0_1, .int .i64 a0_2, .int .i64 a0_3, .slice A0_4 l0_4.length c0_4, .slice A0_5 l0_5.length c0_5]] w fun e w' => e = .returned (.bool r) ∧ Below w.heap.size w w' := by
 have hu51 := Try.underlying51
 have HR0_4 := Aq.mk hr0_4
 have HC0_4 := Aq.mk hc0_4
 clear hr0_4 hc0_4
 have HR0_5 := Aq.mk hr0_5
 have HC0_5 := Aq.mk hc0_5
 clear hr0_5 hc0_5
 have HB := Aq.mk (Below.refl w.heap.size w)
 have H : ((spec_l07Ok.f k a0_0 a0_1 a0_2 a0_3 l0_4 l0_5).bind fun t652 => (some t652)) = some r := h
 clear h
 obtain ⟨t652, A2, H⟩ := qBd H
 obtain rfl := Option.some.inj H
 go_enter Try.func27, Try.ntmps27
 go_wp2_with (first | ((with_reducible refine gQd (N := 1) rfl ?_); refine xQe ?hg (N := 1) ?hd (cs := #[.int .i64 a0_0, .int .i64 a0_1, .int .i64 a0_2, .int .i64 a0_3, .slice A0_4 l0_4.length c0_4, .slice A0_5 l0_5.length c0_5]) (t := 51) ?hr ?_; (case hd => rfl); (case hg => rfl); (case hr => exact tH); intro gb651 hg w3 hbox hb; refine qM4 (bQT tB hb) hbox (tZ w hg) (tZ w hg) ?_; clear HB; intro HB BK651 GW651 GE651; clear hb hbox hg) | ((with_reducible refine gQc (f := 64) rfl ?_); refine goesL_ (some 3) rfl rfl Try.func64 (by kernel_rfl) rfl #[.pointer (some ⟨gb651, 0, none⟩)] rfl tL ?_; (with_reducible refine (spec_l07Ok.calls k (⟨gb651, 0, none⟩ : Addr) a0_0 a0_1 a0_2 a0_3 A0_4 c0_4 l0_4 A0_5 c0_5 l0_5 t652 _ ?s1 ?s2 ?s3 ?s4 ?s5 A2.out).mono ?_); (case s1 => exact tC ((Kd.C_below HR0_4.out HB.out))); (case s2 => exact HC0_4.out); (case s3 => exact tC ((Kd.C_below HR0_5.out HB.out))); (case s4 => exact HC0_5.out); (case s5 => exact AtC.of_blk (g := gb651) (t := 51) (cs := #[.int .i64 a0_0, .int .i64 a0_1, .int .i64 a0_2, .int .i64 a0_3, .slice A0_4 l0_4.length c0_4, .slice A0_5 l0_5.length c0_5]) (tG BK651.out) rfl); rintro e w4 ⟨rfl, hb⟩; refine ⟨_, rfl, ?_⟩; refine qM2 (tQ BK651.out hb) (bQT tB hb) ?_; clear BK651 HB; intro BK651 HB; (try clear hb); (try clear hb2); (try clear hk); (try clear hi)))
 go_ret
 exact ⟨tE, tB⟩
def laws_toField.f (a0_0 : Int) (a0_1 : Int) : Option (Int × Int) := some (a0_0, a0_1)
theorem laws_toField.calls (a0_0 : Int) (a0_1 : Int) (r1 : Int) (r2 : Int) (w : World) (h : laws_toField.f a0_0 a0_1 = some (r1, r2)) :
 Calls Try.prog 65 #[.agg #[.int .i64 a0_0, .int .i64 a0_1]] w fun e w' => e = .returned (.agg #[.int .i64 r1, .int .i64 r2]) ∧ Below w.heap.size w w' := by
 have hu43 := Try.underlying43
 have hu49 := Try.underlying49
 have HB := Aq.mk (Below.refl w.heap.size w)
 have H : (some (a0_0, a0_1)) = some (r1, r2) := h
 clear h
 simp only [Option.some.injEq, Prod.mk.injEq] at H
 obtain ⟨rfl, rfl⟩ := H
 go_enter Try.func65, Try.ntmps65
 go_wp2_with (first | ((with_reducible refine gQd (N := 1) rfl ?_); refine xQe ?hg (N := 1) ?hd (cs := #[.int .i64 a0_0, .int .i64 a0_1]) (t := 43) ?hr ?_; (case hd => rfl); (case hg => rfl); (case hr => exact tH); intro gb653 hg w2 hbox hb; refine qM4 (bQT tB hb) hbox (tZ w hg) (tZ w hg) ?_; clear HB; intro HB BK653 GW653 GE653; clear hb hbox hg) | ((with_reducible refine gQd (N := 2) rfl ?_); refine xQe ?hg (N := 2) ?hd (cs := #[.int .i64 0, .int .i64 0]) (t := 49) ?hr ?_; (case hd => rfl); (case hg => rfl); (case hr => exact tH); intro gb654 hg w3 hbox hb; refine qM7 (tQ BK653.out hb) (bQT tB hb) hbox (tZ w hg) (tZ w hg) ((by rw [hg]; exact Nat.ne_of_lt (blk_lt (g := gb653) (o := .cells #[.int .i64 a0_0, .int .i64 a0_1] 43 (0, 0)) (tG BK653.out)) : gb653 ≠ gb654)) ((by rw [hg]; exact Nat.ne_of_gt (blk_lt (g := gb653) (o := .cells #[.int .i64 a0_0, .int .i64 a0_1] 43 (0, 0)) (tG BK653.out)) : gb654 ≠ gb653)) ?_; clear BK653 HB; intro BK653 HB BK654 GW654 GE654 NB653_654 NB654_653; clear hb hbox hg) | ((with_reducible refine gQd (N := 3) rfl ?_); refine xQe ?hg (N := 3) ?hd (cs := #[.int .i64 0, .int .i64 0]) (t := 49) ?hr ?_; (case hd => rfl); (case hg => rfl); (case hr => exact tH); intro gb655 hg w4 hbox hb; refine qM10 (tQ BK653.out hb) (tQ BK654.out hb) (bQT tB hb) hbox (tZ w hg) (tZ w hg) ((by rw [hg]; exact Nat.ne_of_lt (blk_lt (g := gb653) (o := .cells #[.int .i64 a0_0, .int .i64 a0_1] 43 (0, 0)) (tG BK653.out)) : gb653 ≠ gb655)) ((by rw [hg]; exact Nat.ne_of_gt (blk_lt (g := gb653) (o := .cells #[.int .i64 a0_0, .int .i64 a0_1] 43 (0, 0)) (tG BK653.out)) : gb655 ≠ gb653)) ((by rw [hg]; exact Nat.ne_of_lt (blk_lt (g := gb654) (o := .cells #[.int .i64 0, .int .i64 0] 49 (0, 0)) (tG BK654.out)) : gb654 ≠ gb655)) ((by rw [hg]; exact Nat.ne_of_gt (blk_lt (g := gb654) (o := .cells #[.int .i64 0, .int .i64 0] 49 (0, 0)) (tG BK654.out)) : gb655 ≠ gb654)) ?_; clear BK653 BK654 HB; intro BK653 BK654 HB BK655 GW655 GE655 NB653_655 NB655_653 NB654_655 NB655_654; clear hb hbox hg; have hnb5 := NB653_654.out; have hnc5 := NB654_653.out; have hnb6 := NB653_655.out; have hnc6 := NB655_653.out; have hcz7_0 : w4.cell? ⟨gb653, 0, none⟩ = some (.int .i64 a0_0) := (kQC BK653.out 0).trans rfl; have hcz7_1 : w4.cell? ⟨gb653, 1, none⟩ = some (.int .i64 a0_1) := (kQC BK653.out 1).trans rfl; have hfz7_0 := kQF BK653.out 0; have hfz7_1 := kQF BK653.out 1; have hnb8 := NB655_654.out; have hnc8 := NB654_655.out; have hcz9_0 : w4.cell? ⟨gb655, 0, none⟩ = some (.int .i64 0) := (kQC BK655.out 0).trans rfl; have hcz9_1 : w4.cell? ⟨gb655, 1, none⟩ = some (.int .i64 0) := (kQC BK655.out 1).trans rfl; have hfz9_0 := kQF BK655.out 0; have hfz9_1 := kQF BK655.out 1; have hcz10_0 : w4.cell? ⟨gb654, 0, none⟩ = some (.int .i64 0) := (kQC BK654.out 0).trans rfl; have hcz10_1 : w4.cell? ⟨gb654, 1, none⟩ = some (.int .i64 0) := (kQC BK654.out 1).trans rfl; have hfz10_0 := kQF BK654.out 0; have hfz10_1 := kQF BK654.out 1))
 refine bodyPost_ret (results_cell_row rfl _ _ gb654 49 #[.int .i64 a0_0, .int .i64 a0_1] (0, 0) _ rfl (by (with_reducible repeat (first | refine kQN ?_ _ | refine kQD ?_ | refine kQA ?_ _)); refine kQP (cs := #[.int .i64 a0_0, .int .i64 0]) ?_ 1 _ rfl; (with_reducible repeat (first | refine kQN ?_ _ | refine kQD ?_ | refine kQA ?_ _)); refine kQP (cs := #[.int .i64 0, .int .i64 0]) ?_ 0 _ rfl; (with_reducible repeat (first | refine kQN ?_ _ | refine kQD ?_ | refine kQA ?_ _)); refine kQR ?_ NB654_655.out _; (with_reducible repeat (first | refine kQN ?_ _ | refine kQD ?_ | refine kQA ?_ _)); refine kQR ?_ NB654_655.out _; (with_reducible repeat (first | refine kQN ?_ _ | refine kQD ?_ | refine kQA ?_ _)); exact BK654.out) Try.underlying49 rfl (by kernel_rfl)) rfl ?_
 exact ⟨tE, tB⟩
def laws_toInt64SS.l0 : Nat → List (List Int) → List (List Int) → Int → Option ((List (List Int)))
  | 0, _, _, _ => none
  | k + 1, x0, x3, x4 => if x4 < (x0.length : Int) then (if 0 ≤ x4 then ((laws_toInt64S.f k (rd_L2 x0 x4)).bind fun t665 => (if x4 < (x3.length : Int) then (laws_toInt64SS.l0 k x0 (x3.set (x4 : Int).toNat t665) (wrap64 (x4 + 1))) else (none))) else (none)) else (some x3)
def laws_toInt64SS.f (k : Nat) (l0 : List (List Int)) : Option ((List (List Int))) := if 0 ≤ (l0.length : Int) then (if ((l0.length : Int) : Int).toNat ≤ 11728124029610 then (laws_toInt64SS.l0 k l0 (List.replicate ((l0.length : Int) : Int).toNat []) 0) else (none)) else (none)
theorem laws_toInt64SS.mono_l : ∀ k, (∀ y0 y1 y2, LeO (laws_toInt64SS.l0 k y0 y1 y2) (laws_toInt64SS.l0 (k + 1) y0 y1 y2))
 | 0 => fun _ _ _ r h => by simp [laws_toInt64SS.l0] at h
 | k + 1 => by
  have ih0 := laws_toInt64SS.mono_l k
  ·intro y0 y1 y2
   unfold laws_toInt64SS.l0
   repeat' first
   | (with_reducible first | apply ih0 | apply laws_toInt64S.mono | exact LeO.refl _ | exact LeO.none _ | refine LeO.ite ?_ ?_ | refine LeO.bind ?_ (fun _ => ?_))
   | exact LeO.none _
   | refine LeO.ite ?_ ?_
   | refine LeO.bind ?_ (fun _ => ?_)
theorem laws_toInt64SS.mono : ∀ a0 k, LeO (laws_toInt64SS.f k a0) (laws_toInt64SS.f (k + 1) a0) := by
 intro a0 k
 have ih0 := laws_toInt64SS.mono_l k
 unfold laws_toInt64SS.f
 repeat' first
  | (with_reducible first | apply ih0 | apply laws_toInt64S.mono | exact LeO.refl _ | exact LeO.none _ | refine LeO.ite ?_ ?_ | refine LeO.bind ?_ (fun _ => ?_))
  | exact LeO.none _
  | refine LeO.ite ?_ ?_
  | refine LeO.bind ?_ (fun _ => ?_)
theorem laws_toInt64SS.calls (k : Nat) (A0 : Option Addr) (c0 : Nat) (l0 : List (List Int)) (r : List (List Int)) (w : World) (hr0 : Kd.C (Kd.slice 2 (Kd.int .i64)) w A0 l0.length l0) (hc0 : l0.length ≤ c0) (h : laws_toInt64SS.f k l0 = some r) :
 Calls Try.prog 66 #[.slice A0 l0.length c0] w fun e w' => ∃ v0_ : Value, e = .returned (v0_) ∧ Kd.S (Kd.slice 2 (Kd.int .i64)) 25 w' w.heap.size (fun _ => True) v0_ r ∧ Below w.heap.size w w' := by
 have HR0 := Aq.mk hr0
 have HC0 := Aq.mk hc0
 clear hr0 hc0
 have HB := Aq.mk (Below.refl w.heap.size w)
 have H : (if 0 ≤ (l0.length : Int) then (if ((l0.length : Int) : Int).toNat ≤ 11728124029610 then (laws_toInt64SS.l0 k l0 (List.replicate ((l0.length : Int) : Int).toNat []) 0) else (none)) else (none)) = some r := h
 clear h
 by_cases c2 : 0 ≤ (l0.length : Int)
 rotate_left
 ·rw [if_neg c2] at H
  exact absurd H (by simp)
 rw [if_pos c2] at H
 have c2b0 := eq_true c2
 have c2b1 := decide_eq_true c2
 clear c2
 by_cases c3 : ((l0.length : Int) : Int).toNat ≤ 11728124029610
 rotate_left
 ·rw [if_neg c3] at H
  exact absurd H (by simp)
 rw [if_pos c3] at H
 have c3b0 := eq_true c3
 have c3b1 := decide_eq_true c3
 clear c3
 obtain ⟨y661, hy661⟩ : ∃ y_ : List (List Int), y_ = (List.replicate ((l0.length : Int) : Int).toNat []) := ⟨_, rfl⟩
 replace H : (laws_toInt64SS.l0 k l0 y661 0) = some r := by first | (rw [hy661]; with_reducible exact H) | (have H2_ := (Option.bind_some _ _).symm.trans H; rw [hy661]; with_reducible exact H2_) | (have H2_ := (Option.bind_some _ _).symm.trans H; with_reducible exact H2_) | with_reducible exact H | (rw [hy661]; exact H) | exact H
 have Ny661 := Aq.mk hy661
 clear hy661
 replace H' := Aq.mk H
 clear H
 go_enter Try.func66, Try.ntmps66
 go_wp2_with (first | ((with_reducible refine gQd (N := 7) rfl ?_); refine Kd.S_make (Kd.slice 2 (Kd.int .i64)) _ 25 rfl (N := 7) rfl 44 _ _ rfl (l0.length : Int) rfl rfl Try.underlying44 (.slice none 0 0) 24 info25 rfl (by decide) (by omega) [] (ok := fun _ => True) (okp := fun _ => True) ⟨_, rfl, Kd.R_nil _ _ _ _ _⟩ (fun _ hk => hk) trivial (of_decide_eq_true tA) (Nat.le_trans (Nat.mul_le_mul_right _ (of_decide_eq_true tA : (l0.length : Int).toNat ≤ 11728124029610)) (by omega)) (Below.refl _ _) (Nat.le_refl _) ?_; intro v662 w4 ho5 hb hg_ hnew_; clear hg_ hnew_; (first | rw [← Ny661.out] at ho5 | (simp only [Int.reduceToNat] at ho5; rw [← Ny661.out] at ho5)); refine qM2 (Kd.S_lower ho5 (bQZ tB)) (bQT tB hb) ?_; clear HB; intro HO663 HB; clear hb ho5))
 go_loopg [4] k (fun kq v4 w' => ∃ (x3_1 : List (List Int)) (x4_1 : Int), v4 = .int .i64 x4_1 ∧ Aq (laws_toInt64SS.l0 kq l0 x3_1 x4_1 = some r) ∧ Aq (kq ≤ k) ∧ Aq (Kd.S (Kd.slice 2 (Kd.int .i64)) 25 w' w.heap.size (fun _ => True) v662 x3_1) ∧ Aq (Below w.heap.size w w'))
 case atStart => exact ⟨(y661), (0), tS, H', ⟨Nat.le_refl _⟩, ⟨by (with_reducible repeat (first | apply Kd.S_alloc | apply Kd.S_drewN | apply Kd.S_drew)); exact HO663.out⟩, ⟨tB⟩⟩
 clear H'
 try clear c2
 try clear c2b0
 try clear c2b1
 try clear c3
 try clear c3b0
 try clear c3b1
 obtain ⟨x3_1, x4_1, rfl, HA, HK1, HO_3, HB⟩ := hrel
 cases gk with
 | zero => exact absurd HA.out (by simp [laws_toInt64SS.l0])
 | succ k1 =>
  have H := HA.out
  clear HA
  simp only [laws_toInt64SS.l0] at H
  by_cases c6 : x4_1 < (l0.length : Int)
  rotate_left
  ·rw [if_neg c6] at H
   have c6b0 := decide_eq_false c6
   clear c6
   obtain rfl := Option.some.inj H
   go_wp2
   go_ret
   exact ⟨_, tE, by (with_reducible repeat (first | apply Kd.S_alloc | apply Kd.S_drewN | apply Kd.S_drew)); exact HO_3.out, tB⟩
  rw [if_pos c6] at H
  have c6b0 := decide_eq_true c6
  clear c6
  by_cases c7 : 0 ≤ x4_1
  rotate_left
  ·rw [if_neg c7] at H
   exact absurd H (by simp)
  rw [if_pos c7] at H
  have c7b0 := decide_eq_true c7
  clear c7
  obtain ⟨t665, A8, H⟩ := qBd H
  by_cases c9 : x4_1 < (x3_1.length : Int)
  rotate_left
  ·rw [if_neg c9] at H
   exact absurd H (by simp)
  rw [if_pos c9] at H
  have c9b0 := decide_eq_true c9
  clear c9
  obtain ⟨y668, hy668⟩ : ∃ y_ : List (List Int), y_ = (x3_1.set (x4_1 : Int).toNat t665) := ⟨_, rfl⟩
  replace H : (laws_toInt64SS.l0 k1 l0 y668 (wrap64 (x4_1 + 1))) = some r := by first | (rw [hy668]; with_reducible exact H) | (have H2_ := (Option.bind_some _ _).symm.trans H; rw [hy668]; with_reducible exact H2_) | (have H2_ := (Option.bind_some _ _).symm.trans H; with_reducible exact H2_) | with_reducible exact H | (rw [hy668]; exact H) | exact H
  have Ny668 := Aq.mk hy668
  clear hy668
  replace H' := Aq.mk H
  clear H
  have p664 : 0 ≤ (x4_1 : Int) := of_decide_eq_true tA
  have q664 : x4_1 < (l0.length : Int) := of_decide_eq_true tA
  obtain ⟨ad664, A664_0, c664_0, e664, hx664_0, hl664_0, hi664_0⟩ := at_L2 HR0.out x4_1 p664 q664
  cases e664
  replace hx664_0 := (HB.out.cell (World.block_lt_of_cell? w _ hx664_0)).trans hx664_0
  have HR664_0 := Aq.mk hi664_0
  have HC664_0 := Aq.mk hl664_0
  clear hi664_0 hl664_0
  replace p664 := eq_true p664
  replace q664 := eq_true q664
  go_wp2_with (first | ((with_reducible refine gQc (f := 78) rfl ?_); refine goesL_ (some 20) rfl rfl Try.func78 (by kernel_rfl) rfl #[.slice A664_0 (rd_L2 l0 x4_1).length c664_0] rfl tL ?_; (with_reducible refine (laws_toInt64S.calls k1 _ _ (rd_L2 l0 x4_1) t665 _ ?s1 ?s2 A8.out).mono ?_); (case s1 => exact tC ((Kd.C_below HR664_0.out HB.out))); (case s2 => exact HC664_0.out); rintro e w11 ⟨v666, rfl, ho0, hb⟩; refine ⟨_, rfl, ?_⟩; refine qM3 (Kd.S_elder' (by (with_reducible repeat (first | apply Kd.S_alloc | apply Kd.S_drewN | apply Kd.S_drew)); exact HO_3.out) (Kd.R_base ho0) hb) (Kd.R_lower ho0 (bQZ tB)) (bQT tB hb) ?_; clear HO_3 HB; intro HO_3 HO667 HB; (try clear hb); (try clear hb2); (try clear hk); (try clear hi); (try clear ho0); have p10 : 0 ≤ (x4_1 : Int) := of_decide_eq_true tA; have q10 : (x4_1 : Int) < ((x3_1.length : Int) : Int) := of_decide_eq_true tA; obtain ⟨go10, co10, eo10, gb10, gl10, cl10, HG10⟩ := Kd.S_form HO_3.out (by omega); (first | cases eo10 | (injection eo10 with ea_ en_ ec_; (first | subst ea_ | (injection ea_ with ea_; subst ea_)); subst ec_; clear en_)); have GB10 := Aq.mk gb10; have GG10 := Aq.mk HG10; clear gb10 gl10 HG10; obtain ⟨_, ce10, hcl10, hM10, hcc10, hfr10, _, _⟩ := Kd.S_elem HO_3.out [] (x4_1 : Int) p10 q10; obtain ⟨ve10_0, rfl, ge10_0⟩ := hM10; have hx10_0 := hcc10 0 _ rfl; have hf10_0 := hfr10 0; (try simp only [show ((Kd.slice 2 (Kd.int .i64))).sz = 1 from rfl, Nat.mul_one, Nat.add_zero] at hx10_0); (try simp only [show ((Kd.slice 2 (Kd.int .i64))).sz = 1 from rfl, Nat.mul_one, Nat.add_zero] at hf10_0); clear hcl10 hcc10 hfr10; (try clear hM10); replace p10 := eq_true p10; replace q10 := eq_true q10; obtain ⟨Ao12, co12, eo12⟩ := Kd.R_slice HO667.out; subst eo12; have n_ := Aq.mk (Kd.S_mono (ok' := (fun k_ => some k_ ≠ (.slice Ao12 t665.length co12 : Value).ownBlock)) HO_3.out (fun k_ hk => hk.2)); clear HO_3; have HO_3 := n_; clear n_; have HX13 := Aq.mk (show Kd.S (Kd.slice 2 (Kd.int .i64)) 25 w11 w.heap.size (fun k_ => ((fun _ => True)) k_ ∧ ¬ ((fun k_ => some k_ = (.slice Ao12 t665.length co12 : Value).ownBlock)) k_) (.slice (some ⟨go10, 0, none⟩) x3_1.length co10) x3_1 from (by (with_reducible repeat (first | apply Kd.S_alloc | apply Kd.S_drewN | apply Kd.S_drew)); exact Kd.S_mono HO_3.out (fun k_ hk => ⟨trivial, fun e_ => hk e_⟩))); obtain ⟨oki13, ce13, hcl13, hM13, hcc13, hfr13, hoki13, hH13⟩ := Kd.S_elem HX13.out [] (x4_1 : Int) (of_decide_eq_true tA) (by have h_ : (x4_1 : Int) < ((x3_1.length : Int) : Int) := of_decide_eq_true tA; first | exact h_ | (have e_ := (Kd.S_reads' HO_3.out).1; omega) | simpa using h_); obtain ⟨ve13_0, rfl, ge13_0⟩ := hM13; have HP13 := Kd.S_seg hH13 (of_decide_eq_true tA) (by have h_ : (x4_1 : Int) < ((x3_1.length : Int) : Int) := of_decide_eq_true tA; first | exact h_ | (have e_ := (Kd.S_reads' HO_3.out).1; omega) | simpa using h_) (seg := [.slice Ao12 t665.length co12]) (j := 0) (show 1 ≤ 1 from by decide) (x' := t665) (Kd.M_row (Kd.R_mono (Kd.R_tight rfl (Kd.R_mono (ok' := fun k_ => ((fun _ => True)) k_ ∧ k_ ≠ go10) (Kd.R_apart' (HO667.out) (Kd.S_typed HO_3.out) (by decide)) (fun k_ hk => ⟨trivial, fun e_ => (hk.2) (by rw [e_]; rfl)⟩))) (fun _ h_ => Or.inr (h_)))) (fun _ hk => hk) (fun k_ hk_ => ((Kd.R_mono (ok' := fun k_ => ((fun _ => True)) k_ ∧ k_ ≠ go10) (Kd.R_apart' (HO667.out) (Kd.S_typed HO_3.out) (by decide)) (fun k_ hk => ⟨trivial, fun e_ => (hk.2) (by rw [e_]; rfl)⟩))).1 k_ hk_.symm); have hx13_0 := hcc13 0 _ rfl; (try simp only [show ((Kd.slice 2 (Kd.int .i64))).sz = 1 from rfl, Nat.mul_one, Nat.add_zero] at hx13_0); have hf13_0 := hfr13 0; (try simp only [show ((Kd.slice 2 (Kd.int .i64))).sz = 1 from rfl, Nat.mul_one, Nat.add_zero] at hf13_0); clear hcl13 hcc13 hfr13 hoki13 hH13; (try clear hM13); (try simp only [show ((Kd.slice 2 (Kd.int .i64))).sz = 1 from rfl, Nat.mul_one, Nat.add_zero] at HP13)) | ((with_reducible refine gate_store (t := 25) (p := 21) rfl ?_); refine store_event (t := 25) (p := 21) (v := ?vo_w14) (w1 := (w11.setCell ⟨go10, (x4_1 : Int).toNat, none⟩ (.slice Ao12 t665.length co12))) ?hg ?ho ?hn ?hr ?_; (case ho => rfl); (case hg => rfl); (case hn => rfl); (case hr => exact tH); intro w14 hw; have hg : w11.grownBy w14 (some go10) := (by rw [hw]; exact HP13.2); have hp_ : Kd.S (Kd.slice 2 (Kd.int .i64)) 25 w14 w.heap.size (fun _ => True) (.slice (some ⟨go10, 0, none⟩) x3_1.length co10) y668 := (by rw [hw, Ny668.out]; exact HP13.1); clear HP13; refine qM2 hp_ ((by rw [hw]; exact bQS (HB.out) GB10.out : Below w.heap.size w w14)) ?_; clear HO_3 HB HO667; intro HO_3 HB; clear hg hw hp_))
  go_roundg k1
  case measure => have := HK1.out; omega
  case rel => exact ⟨(y668), (wrap64 (x4_1 + 1)), tS, H', ⟨by have := HK1.out; omega⟩, ⟨by (with_reducible repeat (first | apply Kd.S_alloc | apply Kd.S_drewN | apply Kd.S_drew)); exact HO_3.out⟩, ⟨tB⟩⟩
def laws_toNet.f (k : Nat) (a0_0 : Int) (a0_1 : Int) (a0_2 : Int) (a0_3 : Int) (l0_4 : List (List Int)) (l0_5 : List (List Int)) : Option (Int × Int × Int × Int × (List (List Int)) × (List (List Int))) := (laws_toField.f a0_0 a0_1).bind fun bt672 => ((laws_toInt64SS.f k l0_4).bind fun t674 => ((laws_toInt64SS.f k l0_5).bind fun t677 => (some (bt672.1, bt672.2, a0_2, a0_3, t674, t677))))
theorem laws_toNet.mono : ∀ a0 a1 a2 a3 a4 a5 k, LeO (laws_toNet.f k a0 a1 a2 a3 a4 a5) (laws_toNet.f (k + 1) a0 a1 a2 a3 a4 a5) := by
 intro a0 a1 a2 a3 a4 a5 k
 unfold laws_toNet.f
 repeat' first
  | (with_reducible first | apply laws_toInt64SS.mono | exact LeO.refl _ | exact LeO.none _ | refine LeO.ite ?_ ?_ | refine LeO.bind ?_ (fun _ => ?_))
  | exact LeO.none _
  | refine LeO.ite ?_ ?_
  | refine LeO.bind ?_ (fun _ => ?_)
theorem laws_toNet.calls (k : Nat) (a0_0 : Int) (a0_1 : Int) (a0_2 : Int) (a0_3 : Int) (A0_4 : Option Addr) (c0_4 : Nat) (l0_4 : List (List Int)) (A0_5 : Option Addr) (c0_5 : Nat) (l0_5 : List (List Int)) (r1 : Int) (r2 : Int) (r3 : Int) (r4 : Int) (r5 : List (List Int)) (r6 : List (List Int)) (w : World) (hr0_4 : Kd.C (Kd.slice 2 (Kd.int .i64)) w A0_4 l0_4.length l0_4) (hc0_4 : l0_4.length ≤ c0_4) (hr0_5 : Kd.C (Kd.slice 2 (Kd.int .i64)) w A0_5 l0_5.length l0_5) (hc0_5 : l0_5.length ≤ c0_5) (h : laws_toNet.f k a0_0 a0_1 a0_2 a0_3 l0_4 l0_5 = some (r1, r2, r3, r4, r5, r6)) :
 Calls Try.prog 28 #[.agg #[.int .i64 a0_0, .int .i64 a0_1, .int .i64 a0_2, .int .i64 a0_3, .slice A0_4 l0_4.length c0_4, .slice A0_5 l0_5.length c0_5]] w fun e w' => ∃ v4_ v5_ : Value, e = .returned (.agg #[.int .i64 r1, .int .i64 r2, .int .i64 r3, .int .i64 r4, v4_, v5_]) ∧ Kd.S (Kd.slice 2 (Kd.int .i64)) 25 w' w.heap.size (fun k_ => some k_ ≠ (v5_ : Value).ownBlock) v4_ r5 ∧ Kd.S (Kd.slice 2 (Kd.int .i64)) 25 w' w.heap.size (fun k_ => some k_ ≠ (v4_ : Value).ownBlock) v5_ r6 ∧ Below w.heap.size w w' := by
 have hu46 := Try.underlying46
 have hu51 := Try.underlying51
 have hu43 := Try.underlying43
 have hu49 := Try.underlying49
 have HR0_4 := Aq.mk hr0_4
 have HC0_4 := Aq.mk hc0_4
 clear hr0_4 hc0_4
 have HR0_5 := Aq.mk hr0_5
 have HC0_5 := Aq.mk hc0_5
 clear hr0_5 hc0_5
 have HB := Aq.mk (Below.refl w.heap.size w)
 have H : ((laws_toField.f a0_0 a0_1).bind fun bt672 => ((laws_toInt64SS.f k l0_4).bind fun t674 => ((laws_toInt64SS.f k l0_5).bind fun t677 => (some (bt672.1, bt672.2, a0_2, a0_3, t674, t677))))) = some (r1, r2, r3, r4, r5, r6) := h
 clear h
 obtain ⟨⟨t672, t673⟩, A2, H⟩ := qBd H
 (try dsimp only at H)
 obtain ⟨t674, A3, H⟩ := qBd H
 obtain ⟨t677, A4, H⟩ := qBd H
 simp only [Option.some.injEq, Prod.mk.injEq] at H
 obtain ⟨rfl, rfl, rfl, rfl, rfl, rfl⟩ := H
 go_enter Try.func28, Try.ntmps28
 go_wp2_with (first | ((with_reducible refine gQd (N := 1) rfl ?_); refine xQe ?hg (N := 1) ?hd (cs := #[.int .i64 a0_0, .int .i64 a0_1, .int .i64 a0_2, .int .i64 a0_3, .slice A0_4 l0_4.length c0_4, .slice A0_5 l0_5.length c0_5]) (t := 46) ?hr ?_; (case hd => rfl); (case hg => rfl); (case hr => exact tH); intro gb669 hg w5 hbox hb; refine qM4 (bQT tB hb) hbox (tZ w hg) (tZ w hg) ?_; clear HB; intro HB BK669 GW669 GE669; clear hb hbox hg) | ((with_reducible refine gQd (N := 2) rfl ?_); refine xQe ?hg (N := 2) ?hd (cs := #[.int .i64 0, .int .i64 0, .int .i64 0, .int .i64 0, .slice none 0 0, .slice none 0 0]) (t := 51) ?hr ?_; (case hd => rfl); (case hg => rfl); (case hr => exact tH); intro gb670 hg w6 hbox hb; refine qM7 (tQ BK669.out hb) (bQT tB hb) hbox (tZ w hg) (tZ w hg) ((by rw [hg]; exact Nat.ne_of_lt (blk_lt (g := gb669) (o := .cells #[.int .i64 a0_0, .int .i64 a0_1, .int .i64 a0_2, .int .i64 a0_3, .slice A0_4 l0_4.length c0_4, .slice A0_5 l0_5.length c0_5] 46 (0, 0)) (tG BK669.out)) : gb669 ≠ gb670)) ((by rw [hg]; exact Nat.ne_of_gt (blk_lt (g := gb669) (o := .cells #[.int .i64 a0_0, .int .i64 a0_1, .int .i64 a0_2, .int .i64 a0_3, .slice A0_4 l0_4.length c0_4, .slice A0_5 l0_5.length c0_5] 46 (0, 0)) (tG BK669.out)) : gb670 ≠ gb669)) ?_; clear BK669 HB; intro BK669 HB BK670 GW670 GE670 NB669_670 NB670_669; clear hb hbox hg) | ((with_reducible refine gQd (N := 3) rfl ?_); refine xQe ?hg (N := 3) ?hd (cs := #[.int .i64 0, .int .i64 0, .int .i64 0, .int .i64 0, .slice none 0 0, .slice none 0 0]) (t := 51) ?hr ?_; (case hd => rfl); (case hg => rfl); (case hr => exact tH); intro gb671 hg w7 hbox hb; refine qM10 (tQ BK669.out hb) (tQ BK670.out hb) (bQT tB hb) hbox (tZ w hg) (tZ w hg) ((by rw [hg]; exact Nat.ne_of_lt (blk_lt (g := gb669) (o := .cells #[.int .i64 a0_0, .int .i64 a0_1, .int .i64 a0_2, .int .i64 a0_3, .slice A0_4 l0_4.length c0_4, .slice A0_5 l0_5.length c0_5] 46 (0, 0)) (tG BK669.out)) : gb669 ≠ gb671)) ((by rw [hg]; exact Nat.ne_of_gt (blk_lt (g := gb669) (o := .cells #[.int .i64 a0_0, .int .i64 a0_1, .int .i64 a0_2, .int .i64 a0_3, .slice A0_4 l0_4.length c0_4, .slice A0_5 l0_5.length c0_5] 46 (0, 0)) (tG BK669.out)) : gb671 ≠ gb669)) ((by rw [hg]; exact Nat.ne_of_lt (blk_lt (g := gb670) (o := .cells #[.int .i64 0, .int .i64 0, .int .i64 0, .int .i64 0, .slice none 0 0, .slice none 0 0] 51 (0, 0)) (tG BK670.out)) : gb670 ≠ gb671)) ((by rw [hg]; exact Nat.ne_of_gt (blk_lt (g := gb670) (o := .cells #[.int .i64 0, .int .i64 0, .int .i64 0, .int .i64 0, .slice none 0 0, .slice none 0 0] 51 (0, 0)) (tG BK670.out)) : gb671 ≠ gb670)) ?_; clear BK669 BK670 HB; intro BK669 BK670 HB BK671 GW671 GE671 NB669_671 NB671_669 NB670_671 NB671_670; clear hb hbox hg; have hnb8 := NB669_670.out; have hnc8 := NB670_669.out; have hnb9 := NB669_671.out; have hnc9 := NB671_669.out; have hcz10_0 : w7.cell? ⟨gb669, 0, none⟩ = some (.int .i64 a0_0) := (kQC BK669.out 0).trans rfl; have hcz10_1 : w7.cell? ⟨gb669, 1, none⟩ = some (.int .i64 a0_1) := (kQC BK669.out 1).trans rfl; have hcz10_2 : w7.cell? ⟨gb669, 2, none⟩ = some (.int .i64 a0_2) := (kQC BK669.out 2).trans rfl; have hcz10_3 : w7.cell? ⟨gb669, 3, none⟩ = some (.int .i64 a0_3) := (kQC BK669.out 3).trans rfl; have hcz10_4 : w7.cell? ⟨gb669, 4, none⟩ = some (.slice A0_4 l0_4.length c0_4) := (kQC BK669.out 4).trans rfl; have hcz10_5 : w7.cell? ⟨gb669, 5, none⟩ = some (.slice A0_5 l0_5.length c0_5) := (kQC BK669.out 5).trans rfl; have hfz10_0 := kQF BK669.out 0; have hfz10_1 := kQF BK669.out 1; have hfz10_2 := kQF BK669.out 2; have hfz10_3 := kQF BK669.out 3; have hfz10_4 := kQF BK669.out 4; have hfz10_5 := kQF BK669.out 5) | ((with_reducible refine gQc (f := 65) rfl ?_); refine goesL_ (some 6) rfl rfl Try.func65 (by kernel_rfl) rfl #[.agg #[.int .i64 a0_0, .int .i64 a0_1]] rfl tL ?_; (with_reducible refine (laws_toField.calls a0_0 a0_1 t672 t673 _ A2.out).mono ?_); rintro e w11 ⟨rfl, hb⟩; refine ⟨_, rfl, ?_⟩; refine qM4 (tQ BK669.out hb) (tQ BK670.out hb) (tQ BK671.out hb) (bQT tB hb) ?_; clear BK669 BK670 BK671 HB; intro BK669 BK670 BK671 HB; (try clear hb); (try clear hb2); (try clear hk); (try clear hi); have hnb12 := NB671_670.out; have hnc12 := NB670_671.out; have hcz13_0 : w11.cell? ⟨gb671, 0, none⟩ = some (.int .i64 0) := (kQC BK671.out 0).trans rfl; have hcz13_1 : w11.cell? ⟨gb671, 1, none⟩ = some (.int .i64 0) := (kQC BK671.out 1).trans rfl; have hcz13_2 : w11.cell? ⟨gb671, 2, none⟩ = some (.int .i64 0) := (kQC BK671.out 2).trans rfl; have hcz13_3 : w11.cell? ⟨gb671, 3, none⟩ = some (.int .i64 0) := (kQC BK671.out 3).trans rfl; have hcz13_4 : w11.cell? ⟨gb671, 4, none⟩ = some (.slice none 0 0) := (kQC BK671.out 4).trans rfl; have hcz13_5 : w11.cell? ⟨gb671, 5, none⟩ = some (.slice none 0 0) := (kQC BK671.out 5).trans rfl; have hfz13_0 := kQF BK671.out 0; have hfz13_1 := kQF BK671.out 1; have hfz13_2 := kQF BK671.out 2; have hfz13_3 := kQF BK671.out 3; have hfz13_4 := kQF BK671.out 4; have hfz13_5 := kQF BK671.out 5; have hcz14_0 : w11.cell? ⟨gb669, 0, none⟩ = some (.int .i64 a0_0) := (kQC BK669.out 0).trans rfl; have hcz14_1 : w11.cell? ⟨gb669, 1, none⟩ = some (.int .i64 a0_1) := (kQC BK669.out 1).trans rfl; have hcz14_2 : w11.cell? ⟨gb669, 2, none⟩ = some (.int .i64 a0_2) := (kQC BK669.out 2).trans rfl; have hcz14_3 : w11.cell? ⟨gb669, 3, none⟩ = some (.int .i64 a0_3) := (kQC BK669.out 3).trans rfl; have hcz14_4 : w11.cell? ⟨gb669, 4, none⟩ = some (.slice A0_4 l0_4.length c0_4) := (kQC BK669.out 4).trans rfl; have hcz14_5 : w11.cell? ⟨gb669, 5, none⟩ = some (.slice A0_5 l0_5.length c0_5) := (kQC BK669.out 5).trans rfl; have hfz14_0 := kQF BK669.out 0; have hfz14_1 := kQF BK669.out 1; have hfz14_2 := kQF BK669.out 2; have hfz14_3 := kQF BK669.out 3; have hfz14_4 := kQF BK669.out 4; have hfz14_5 := kQF BK669.out 5) | ((with_reducible refine gQc (f := 66) rfl ?_); refine goesL_ (some 16) rfl rfl Try.func66 (by kernel_rfl) rfl #[.slice A0_4 l0_4.length c0_4] rfl tL ?_; (with_reducible refine (laws_toInt64SS.calls k _ _ l0_4 t674 _ ?s1 ?s2 A3.out).mono ?_); (case s1 => exact Kd.C_below HR0_4.out tB); (case s2 => exact HC0_4.out); rintro e w15 ⟨v675, rfl, ho0, hb⟩; refine ⟨_, rfl, ?_⟩; refine qM5 (Kd.S_lower ho0 (bQZ tB)) (kQB (g := gb669) (o := .cells #[.int .i64 a0_0, .int .i64 a0_1, .int .i64 a0_2, .int .i64 a0_3, .slice A0_4 l0_4.length c0_4, .slice A0_5 l0_5.length c0_5] 46 (0, 0)) (by (with_reducible repeat (first | refine kQN ?_ _ | refine kQD ?_ | refine kQA ?_ _)); refine kQR ?_ NB669_671.out _; (with_reducible repeat (first | refine kQN ?_ _ | refine kQD ?_ | refine kQA ?_ _)); refine kQR ?_ NB669_671.out _; (with_reducible repeat (first | refine kQN ?_ _ | refine kQD ?_ | refine kQA ?_ _)); refine kQR ?_ NB669_671.out _; (with_reducible repeat (first | refine kQN ?_ _ | refine kQD ?_ | refine kQA ?_ _)); refine kQR ?_ NB669_671.out _; (with_reducible repeat (first | refine kQN ?_ _ | refine kQD ?_ | refine kQA ?_ _)); exact BK669.out) hb) (kQB (g := gb670) (o := .cells #[.int .i64 0, .int .i64 0, .int .i64 0, .int .i64 0, .slice none 0 0, .slice none 0 0] 51 (0, 0)) (by (with_reducible repeat (first | refine kQN ?_ _ | refine kQD ?_ | refine kQA ?_ _)); refine kQR ?_ NB670_671.out _; (with_reducible repeat (first | refine kQN ?_ _ | refine kQD ?_ | refine kQA ?_ _)); refine kQR ?_ NB670_671.out _; (with_reducible repeat (first | refine kQN ?_ _ | refine kQD ?_ | refine kQA ?_ _)); refine kQR ?_ NB670_671.out _; (with_reducible repeat (first | refine kQN ?_ _ | refine kQD ?_ | refine kQA ?_ _)); refine kQR ?_ NB670_671.out _; (with_reducible repeat (first | refine kQN ?_ _ | refine kQD ?_ | refine kQA ?_ _)); exact BK670.out) hb) (kQB (g := gb671) (o := .cells #[.int .i64 t672, .int .i64 t673, .int .i64 a0_2, .int .i64 a0_3, .slice none 0 0, .slice none 0 0] 51 (0, 0)) (by (with_reducible repeat (first | refine kQN ?_ _ | refine kQD ?_ | refine kQA ?_ _)); refine kQP (cs := #[.int .i64 t672, .int .i64 t673, .int .i64 a0_2, .int .i64 0, .slice none 0 0, .slice none 0 0]) ?_ 3 _ rfl; (with_reducible repeat (first | refine kQN ?_ _ | refine kQD ?_ | refine kQA ?_ _)); refine kQP (cs := #[.int .i64 t672, .int .i64 t673, .int .i64 0, .int .i64 0, .slice none 0 0, .slice none 0 0]) ?_ 2 _ rfl; (with_reducible repeat (first | refine kQN ?_ _ | refine kQD ?_ | refine kQA ?_ _)); refine kQP (cs := #[.int .i64 t672, .int .i64 0, .int .i64 0, .int .i64 0, .slice none 0 0, .slice none 0 0]) ?_ 1 _ rfl; (with_reducible repeat (first | refine kQN ?_ _ | refine kQD ?_ | refine kQA ?_ _)); refine kQP (cs := #[.int .i64 0, .int .i64 0, .int .i64 0, .int .i64 0, .slice none 0 0, .slice none 0 0]) ?_ 0 _ rfl; (with_reducible repeat (first | refine kQN ?_ _ | refine kQD ?_ | refine kQA ?_ _)); exact BK671.out) hb) (bQT tB hb) ?_; clear BK669 BK670 BK671 HB; intro HO676 BK669 BK670 BK671 HB; (try clear hb); (try clear hb2); (try clear hk); (try clear hi); (try clear ho0); obtain ⟨Ao16, co16, eo16⟩ := Kd.S_slice HO676.out; subst eo16; have hcz17_0 : w15.cell? ⟨gb671, 0, none⟩ = some (.int .i64 t672) := (kQC BK671.out 0).trans rfl; have hcz17_1 : w15.cell? ⟨gb671, 1, none⟩ = some (.int .i64 t673) := (kQC BK671.out 1).trans rfl; have hcz17_2 : w15.cell? ⟨gb671, 2, none⟩ = some (.int .i64 a0_2) := (kQC BK671.out 2).trans rfl; have hcz17_3 : w15.cell? ⟨gb671, 3, none⟩ = some (.int .i64 a0_3) := (kQC BK671.out 3).trans rfl; have hcz17_4 : w15.cell? ⟨gb671, 4, none⟩ = some (.slice none 0 0) := (kQC BK671.out 4).trans rfl; have hcz17_5 : w15.cell? ⟨gb671, 5, none⟩ = some (.slice none 0 0) := (kQC BK671.out 5).trans rfl; have hfz17_0 := kQF BK671.out 0; have hfz17_1 := kQF BK671.out 1; have hfz17_2 := kQF BK671.out 2; have hfz17_3 := kQF BK671.out 3; have hfz17_4 := kQF BK671.out 4; have hfz17_5 := kQF BK671.out 5; have hcz18_0 : w15.cell? ⟨gb669, 0, none⟩ = some (.int .i64 a0_0) := (kQC BK669.out 0).trans rfl; have hcz18_1 : w15.cell? ⟨gb669, 1, none⟩ = some (.int .i64 a0_1) := (kQC BK669.out 1).trans rfl; have hcz18_2 : w15.cell? ⟨gb669, 2, none⟩ = some (.int .i64 a0_2) := (kQC BK669.out 2).trans rfl; have hcz18_3 : w15.cell? ⟨gb669, 3, none⟩ = some (.int .i64 a0_3) := (kQC BK669.out 3).trans rfl; have hcz18_4 : w15.cell? ⟨gb669, 4, none⟩ = some (.slice A0_4 l0_4.length c0_4) := (kQC BK669.out 4).trans rfl; have hcz18_5 : w15.cell? ⟨gb669, 5, none⟩ = some (.slice A0_5 l0_5.length c0_5) := (kQC BK669.out 5).trans rfl; have hfz18_0 := kQF BK669.out 0; have hfz18_1 := kQF BK669.out 1; have hfz18_2 := kQF BK669.out 2; have hfz18_3 := kQF BK669.out 3; have hfz18_4 := kQF BK669.out 4; have hfz18_5 := kQF BK669.out 5) | ((with_reducible refine gQc (f := 66) rfl ?_); refine goesL_ (some 20) rfl rfl Try.func66 (by kernel_rfl) rfl #[.slice A0_5 l0_5.length c0_5] rfl tL ?_; (with_reducible refine (laws_toInt64SS.calls k _ _ l0_5 t677 _ ?s1 ?s2 A4.out).mono ?_); (case s1 => exact Kd.C_below HR0_5.out tB); (case s2 => exact HC0_5.out); rintro e w19 ⟨v678, rfl, ho0, hb⟩; refine ⟨_, rfl, ?_⟩; refine qM6 (Kd.S_elder' (by (with_reducible repeat (first | apply Kd.S_alloc | apply Kd.S_drewN | apply Kd.S_drew)); exact (Kd.S_mono (Kd.S_far (p := ⟨gb671, 4, none⟩) (Kd.S_types HO676.out BK671.out (by decide)) (fun _ hk => hk.2) (.slice Ao16 t674.length co16)) (fun _ h_ => h_.1))) (Kd.S_base ho0) hb) (Kd.S_lower (Kd.S_new' ho0 (Kd.S_lt (by (with_reducible repeat (first | apply Kd.S_alloc | apply Kd.S_drewN | apply Kd.S_drew)); exact (Kd.S_mono (Kd.S_far (p := ⟨gb671, 4, none⟩) (Kd.S_types HO676.out BK671.out (by decide)) (fun _ hk => hk.2) (.slice Ao16 t674.length co16)) (fun _ h_ => h_.1))))) (bQZ tB)) (kQB (g := gb669) (o := .cells #[.int .i64 a0_0, .int .i64 a0_1, .int .i64 a0_2, .int .i64 a0_3, .slice A0_4 l0_4.length c0_4, .slice A0_5 l0_5.length c0_5] 46 (0, 0)) (by (with_reducible repeat (first | refine kQN ?_ _ | refine kQD ?_ | refine kQA ?_ _)); refine kQR ?_ NB669_671.out _; (with_reducible repeat (first | refine kQN ?_ _ | refine kQD ?_ | refine kQA ?_ _)); exact BK669.out) hb) (kQB (g := gb670) (o := .cells #[.int .i64 0, .int .i64 0, .int .i64 0, .int .i64 0, .slice none 0 0, .slice none 0 0] 51 (0, 0)) (by (with_reducible repeat (first | refine kQN ?_ _ | refine kQD ?_ | refine kQA ?_ _)); refine kQR ?_ NB670_671.out _; (with_reducible repeat (first | refine kQN ?_ _ | refine kQD ?_ | refine kQA ?_ _)); exact BK670.out) hb) (kQB (g := gb671) (o := .cells #[.int .i64 t672, .int .i64 t673, .int .i64 a0_2, .int .i64 a0_3, .slice Ao16 t674.length co16, .slice none 0 0] 51 (0, 0)) (by (with_reducible repeat (first | refine kQN ?_ _ | refine kQD ?_ | refine kQA ?_ _)); refine kQP (cs := #[.int .i64 t672, .int .i64 t673, .int .i64 a0_2, .int .i64 a0_3, .slice none 0 0, .slice none 0 0]) ?_ 4 _ rfl; (with_reducible repeat (first | refine kQN ?_ _ | refine kQD ?_ | refine kQA ?_ _)); exact BK671.out) hb) (bQT tB hb) ?_; clear HO676 BK669 BK670 BK671 HB; intro HO676 HO679 BK669 BK670 BK671 HB; (try clear hb); (try clear hb2); (try clear hk); (try clear hi); (try clear ho0); obtain ⟨Ao20, co20, eo20⟩ := Kd.S_slice HO679.out; subst eo20; have hcz21_0 : w19.cell? ⟨gb671, 0, none⟩ = some (.int .i64 t672) := (kQC BK671.out 0).trans rfl; have hcz21_1 : w19.cell? ⟨gb671, 1, none⟩ = some (.int .i64 t673) := (kQC BK671.out 1).trans rfl; have hcz21_2 : w19.cell? ⟨gb671, 2, none⟩ = some (.int .i64 a0_2) := (kQC BK671.out 2).trans rfl; have hcz21_3 : w19.cell? ⟨gb671, 3, none⟩ = some (.int .i64 a0_3) := (kQC BK671.out 3).trans rfl; have hcz21_4 : w19.cell? ⟨gb671, 4, none⟩ = some (.slice Ao16 t674.length co16) := (kQC BK671.out 4).trans rfl; have hcz21_5 : w19.cell? ⟨gb671, 5, none⟩ = some (.slice none 0 0) := (kQC BK671.out 5).trans rfl; have hfz21_0 := kQF BK671.out 0; have hfz21_1 := kQF BK671.out 1; have hfz21_2 := kQF BK671.out 2; have hfz21_3 := kQF BK671.out 3; have hfz21_4 := kQF BK671.out 4; have hfz21_5 := kQF BK671.out 5; have hcz22_0 : w19.cell? ⟨gb670, 0, none⟩ = some (.int .i64 0) := (kQC BK670.out 0).trans rfl; have hcz22_1 : w19.cell? ⟨gb670, 1, none⟩ = some (.int .i64 0) := (kQC BK670.out 1).trans rfl; have hcz22_2 : w19.cell? ⟨gb670, 2, none⟩ = some (.int .i64 0) := (kQC BK670.out 2).trans rfl; have hcz22_3 : w19.cell? ⟨gb670, 3, none⟩ = some (.int .i64 0) := (kQC BK670.out 3).trans rfl; have hcz22_4 : w19.cell? ⟨gb670, 4, none⟩ = some (.slice none 0 0) := (kQC BK670.out 4).trans rfl; have hcz22_5 : w19.cell? ⟨gb670, 5, none⟩ = some (.slice none 0 0) := (kQC BK670.out 5).trans rfl; have hfz22_0 := kQF BK670.out 0; have hfz22_1 := kQF BK670.out 1; have hfz22_2 := kQF BK670.out 2; have hfz22_3 := kQF BK670.out 3; have hfz22_4 := kQF BK670.out 4; have hfz22_5 := kQF BK670.out 5))
 refine bodyPost_ret (results_cell_row rfl _ _ gb670 51 #[.int .i64 t672, .int .i64 t673, .int .i64 a0_2, .int .i64 a0_3, .slice Ao16 t674.length co16, .slice Ao20 t677.length co20] (0, 0) _ rfl (by (with_reducible repeat (first | refine kQN ?_ _ | refine kQD ?_ | refine kQA ?_ _)); refine kQP (cs := #[.int .i64 t672, .int .i64 t673, .int .i64 a0_2, .int .i64 a0_3, .slice Ao16 t674.length co16, .slice none 0 0]) ?_ 5 _ rfl; (with_reducible repeat (first | refine kQN ?_ _ | refine kQD ?_ | refine kQA ?_ _)); refine kQP (cs := #[.int .i64 t672, .int .i64 t673, .int .i64 a0_2, .int .i64 a0_3, .slice none 0 0, .slice none 0 0]) ?_ 4 _ rfl; (with_reducible repeat (first | refine kQN ?_ _ | refine kQD ?_ | refine kQA ?_ _)); refine kQP (cs := #[.int .i64 t672, .int .i64 t673, .int .i64 a0_2, .int .i64 0, .slice none 0 0, .slice none 0 0]) ?_ 3 _ rfl; (with_reducible repeat (first | refine kQN ?_ _ | refine kQD ?_ | refine kQA ?_ _)); refine kQP (cs := #[.int .i64 t672, .int .i64 t673, .int .i64 0, .int .i64 0, .slice none 0 0, .slice none 0 0]) ?_ 2 _ rfl; (with_reducible repeat (first | refine kQN ?_ _ | refine kQD ?_ | refine kQA ?_ _)); refine kQP (cs := #[.int .i64 t672, .int .i64 0, .int .i64 0, .int .i64 0, .slice none 0 0, .slice none 0 0]) ?_ 1 _ rfl; (with_reducible repeat (first | refine kQN ?_ _ | refine kQD ?_ | refine kQA ?_ _)); refine kQP (cs := #[.int .i64 0, .int .i64 0, .int .i64 0, .int .i64 0, .slice none 0 0, .slice none 0 0]) ?_ 0 _ rfl; (with_reducible repeat (first | refine kQN ?_ _ | refine kQD ?_ | refine kQA ?_ _)); refine kQR ?_ NB670_671.out _; (with_reducible repeat (first | refine kQN ?_ _ | refine kQD ?_ | refine kQA ?_ _)); exact BK670.out) Try.underlying51 rfl (by kernel_rfl)) rfl ?_
 exact ⟨_, _, tE, by (with_reducible repeat (first | apply Kd.S_alloc | apply Kd.S_drewN | apply Kd.S_drew)); exact Kd.S_mono (Kd.S_far (p := ⟨gb670, 5, none⟩) (Kd.S_far (p := ⟨gb670, 4, none⟩) (Kd.S_far (p := ⟨gb670, 3, none⟩) (Kd.S_far (p := ⟨gb670, 2, none⟩) (Kd.S_far (p := ⟨gb670, 1, none⟩) (Kd.S_far (p := ⟨gb670, 0, none⟩) (Kd.S_far (p := ⟨gb671, 5, none⟩) (Kd.S_types (Kd.S_types HO676.out BK671.out (by decide)) BK670.out (by decide)) (fun _ hk => hk.1.2) (.slice Ao20 t677.length co20)) (fun _ hk => hk.2) (.int .i64 t672)) (fun _ hk => hk.2) (.int .i64 t673)) (fun _ hk => hk.2) (.int .i64 a0_2)) (fun _ hk => hk.2) (.int .i64 a0_3)) (fun _ hk => hk.2) (.slice Ao16 t674.length co16)) (fun _ hk => hk.2) (.slice Ao20 t677.length co20)) (fun _ hk => hk.1.1.2), by (with_reducible repeat (first | apply Kd.S_alloc | apply Kd.S_drewN | apply Kd.S_drew)); exact Kd.S_mono (Kd.S_far (p := ⟨gb670, 5, none⟩) (Kd.S_far (p := ⟨gb670, 4, none⟩) (Kd.S_far (p := ⟨gb670, 3, none⟩) (Kd.S_far (p := ⟨gb670, 2, none⟩) (Kd.S_far (p := ⟨gb670, 1, none⟩) (Kd.S_far (p := ⟨gb670, 0, none⟩) (Kd.S_far (p := ⟨gb671, 5, none⟩) (Kd.S_types (Kd.S_types HO679.out BK671.out (by decide)) BK670.out (by decide)) (fun _ hk => hk.1.2) (.slice Ao20 t677.length co20)) (fun _ hk => hk.2) (.int .i64 t672)) (fun _ hk => hk.2) (.int .i64 t673)) (fun _ hk => hk.2) (.int .i64 a0_2)) (fun _ hk => hk.2) (.int .i64 a0_3)) (fun _ hk => hk.2) (.slice Ao16 t674.length co16)) (fun _ hk => hk.2) (.slice Ao20 t677.length co20)) (fun _ hk => hk.1.1.2), tB⟩
def impl_degreeOf.l0 : Nat → Int → Int → Option (Int)
  | 0, _, _ => none
  | k + 1, x0, x3 => if x0 > 0 then (impl_degreeOf.l0 k (x0 / 2) (wrap64 (x3 + 1))) else (some x3)
def impl_degreeOf.f (k : Nat) (a0 : Int) : Option (Int) := impl_degreeOf.l0 k a0 (-1)
theorem impl_degreeOf.mono_l : ∀ k, (∀ y0 y1, LeO (impl_degreeOf.l0 k y0 y1) (impl_degreeOf.l0 (k + 1) y0 y1))
 | 0 => fun _ _ r h => by simp [impl_degreeOf.l0] at h
 | k + 1 => by
  have ih0 := impl_degreeOf.mono_l k
  ·intro y0 y1
   unfold impl_degreeOf.l0
   repeat' first
   | (with_reducible first | apply ih0 | exact LeO.refl _ | exact LeO.none _ | refine LeO.ite ?_ ?_ | refine LeO.bind ?_ (fun _ => ?_))
   | exact LeO.none _
   | refine LeO.ite ?_ ?_
   | refine LeO.bind ?_ (fun _ => ?_)
theorem impl_degreeOf.mono : ∀ a0 k, LeO (impl_degreeOf.f k a0) (impl_degreeOf.f (k + 1) a0) := by
 intro a0 k
 have ih0 := impl_degreeOf.mono_l k
 unfold impl_degreeOf.f
 repeat' first
  | (with_reducible first | apply ih0 | exact LeO.refl _ | exact LeO.none _ | refine LeO.ite ?_ ?_ | refine LeO.bind ?_ (fun _ => ?_))
  | exact LeO.none _
  | refine LeO.ite ?_ ?_
  | refine LeO.bind ?_ (fun _ => ?_)
theorem impl_degreeOf.calls (k : Nat) (a0 : Int) (r : Int) (w : World) (h : impl_degreeOf.f k a0 = some r) :
 Calls Try.prog 100 #[.int .i64 a0] w fun e w' => e = .returned (.int .i64 r) ∧ Dq w w' := by
 have H : (impl_degreeOf.l0 k a0 (-1)) = some r := h
 clear h
 replace H' := Aq.mk H
 clear H
 go_enter Try.func100, Try.ntmps100
 go_wp2
 go_loopg [0, 3] k (fun kq v0 v3 w' => ∃ (x0_1 : Int) (x3_1 : Int), v0 = .int .i64 x0_1 ∧ v3 = .int .i64 x3_1 ∧ Aq (impl_degreeOf.l0 kq x0_1 x3_1 = some r) ∧ Aq (kq ≤ k) ∧ Dq w w')
 case atStart => exact ⟨(a0), ((-1)), tS, tS, H', ⟨Nat.le_refl _⟩, tD⟩
 clear H'
 obtain ⟨x0_1, x3_1, rfl, rfl, HA, HK1, ⟨m1, rfl⟩⟩ := hrel
 cases gk with
 | zero => exact absurd HA.out (by simp [impl_degreeOf.l0])
 | succ k1 =>
  have H := HA.out
  clear HA
  simp only [impl_degreeOf.l0] at H
  by_cases c2 : x0_1 > 0
  rotate_left
  ·rw [if_neg c2] at H
   have c2b0 := decide_eq_false c2
   clear c2
   obtain rfl := Option.some.inj H
   go_wp2
   go_ret
   exact ⟨tS, tD⟩
  rw [if_pos c2] at H
  have c2b0 := decide_eq_true c2
  clear c2
  replace H' := Aq.mk H
  clear H
  go_wp2
  go_roundg k1
  case measure => have := HK1.out; omega
  case rel => exact ⟨(x0_1 / 2), (wrap64 (x3_1 + 1)), tS, tS, H', ⟨by have := HK1.out; omega⟩, tD⟩
end Go.Proofs.Ythjfilmdobkmlaa.P
