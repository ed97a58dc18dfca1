/- Functions of the program and what they tell, as the printing program wrote it. -/
import Derived.Test.YtbalkaphibnpcaaPx0
import Derived.Test.YtbalkaphibnpcaaPx23
import Derived.Test.YtbalkaphibnpcaaPx38
import Derived.Test.YtbalkaphibnpcaaPx39
namespace Go.Proofs.Ytbalkaphibnpcaa.P
open Go.Shelf Go.RowKit Go.Proofs.YtbalkaphibnpcaaW.PrintWords Go.Proofs.YtbalkaphibnpcaaW.PrintLast Go.Proofs.YtbalkaphibnpcaaW.PrintMore
attribute [local go_sem] max2_int min2_int max_two min_two max_three min_three max_four min_four
set_option linter.unusedVariables false
set_option linter.unusedSimpArgs false
set_option maxHeartbeats 8000000
set_option maxRecDepth 100000
mutual
def impl_Matrix_kernel.l0 : Nat → List Int → Int → List Int → Int → Int → Int → List Int → Option (Int × List Int)
  | 0, _, _, _, _, _, _, _ => none
  | k + 1, x3, x4, x15, x16, x17, x683000, x683001 => if x17 < x16 then (if 0 ≤ x17 then (if x17 < (x15.length : Int) then ((impl_lead.f k (rd x15 x17)).bind fun t688 => (if 0 ≤ t688 then (impl_Matrix_kernel.l0 k x3 (Go.bits .or .i64 x4 (shl .i64 1 t688)) x15 x16 (wrap64 (x17 + 1)) x683000 x683001) else (none))) else (none)) else (none)) else (impl_Matrix_kernel.l1 k x3 x4 x683000 0 x683000 ([] : List Int))
def impl_Matrix_kernel.l1 : Nat → List Int → Int → Int → Int → Int → List Int → Option (Int × List Int)
  | 0, _, _, _, _, _, _ => none
  | k + 1, x3, x4, x31, x32, x690000, x690001 => if x32 < x31 then (if 0 ≤ x32 then (if (Go.bits .and .i64 (shr .i64 x4 x32) 1) = 1 then (impl_Matrix_kernel.l1 k x3 x4 x31 (wrap64 (x32 + 1)) x690000 x690001) else (impl_Matrix_kernel.l2 k x3 x4 x32 (shl .i64 1 x32) x31 x32 x3 (x3.length : Int) 0 x690000 x690001)) else (none)) else ((impl_Matrix_form.f k x690000 x690001).bind fun bt690 => (some (bt690.1, bt690.2)))
def impl_Matrix_kernel.l2 : Nat → List Int → Int → Int → Int → Int → Int → List Int → Int → Int → Int → List Int → Option (Int × List Int)
  | 0, _, _, _, _, _, _, _, _, _, _, _ => none
  | k + 1, x3, x4, x8, x9, x31, x32, x42, x43, x44, x690000, x690001 => if x44 < x43 then (if 0 ≤ x44 then (if x44 < (x42.length : Int) then (if 0 ≤ x8 then (if (Go.bits .and .i64 (shr .i64 (rd x42 x44) x8) 1) = 1 then ((impl_lead.f k (rd x42 x44)).bind fun t695 => (if 0 ≤ t695 then (impl_Matrix_kernel.l2 k x3 x4 x8 (Go.bits .or .i64 x9 (shl .i64 1 t695)) x31 x32 x42 x43 (wrap64 (x44 + 1)) x690000 x690001) else (none))) else (impl_Matrix_kernel.l2 k x3 x4 x8 x9 x31 x32 x42 x43 (wrap64 (x44 + 1)) x690000 x690001)) else (none)) else (none)) else (none)) else (if x690001.length < 17592186044416 then (impl_Matrix_kernel.l1 k x3 x4 x31 (wrap64 (x32 + 1)) x690000 (x690001 ++ [x9])) else (none))
end
def impl_Matrix_kernel.f (k : Nat) (a0_0 : Int) (l0_1 : List Int) : Option (Int × List Int) := (impl_echelon.f k l0_1).bind fun t684 => (impl_Matrix_kernel.l0 k t684 0 t684 (t684.length : Int) 0 a0_0 l0_1)
theorem impl_Matrix_kernel.mono_l : ∀ k, (∀ y0 y1 y2 y3 y4 y5 y6, LeO (impl_Matrix_kernel.l0 k y0 y1 y2 y3 y4 y5 y6) (impl_Matrix_kernel.l0 (k + 1) y0 y1 y2 y3 y4 y5 y6)) ∧ (∀ y0 y1 y2 y3 y4 y5, LeO (impl_Matrix_kernel.l1 k y0 y1 y2 y3 y4 y5) (impl_Matrix_kernel.l1 (k + 1) y0 y1 y2 y3 y4 y5)) ∧ (∀ y0 y1 y2 y3 y4 y5 y6 y7 y8 y9 y10, LeO (impl_Matrix_kernel.l2 k y0 y1 y2 y3 y4 y5 y6 y7 y8 y9 y10) (impl_Matrix_kernel.l2 (k + 1) y0 y1 y2 y3 y4 y5 y6 y7 y8 y9 y10))
 | 0 => ⟨fun _ _ _ _ _ _ _ r h => by simp [impl_Matrix_kernel.l0] at h, fun _ _ _ _ _ _ r h => by simp [impl_Matrix_kernel.l1] at h, fun _ _ _ _ _ _ _ _ _ _ _ r h => by simp [impl_Matrix_kernel.l2] at h⟩
 | k + 1 => by
  obtain ⟨ih0, ih1, ih2⟩ := impl_Matrix_kernel.mono_l k
  refine ⟨?_, ?_, ?_⟩ <;> intros <;> first | unfold impl_Matrix_kernel.l0 | unfold impl_Matrix_kernel.l1 | unfold impl_Matrix_kernel.l2
  all_goals repeat' first
   | (with_reducible first | apply ih0 | apply ih1 | apply ih2 | apply impl_Matrix_form.mono | apply impl_echelon.mono | apply impl_lead.mono | exact LeO.refl _ | exact LeO.none _ | refine LeO.ite ?_ ?_ | refine LeO.bind ?_ (fun _ => ?_))
   | exact LeO.none _
   | refine LeO.ite ?_ ?_
   | refine LeO.bind ?_ (fun _ => ?_)
theorem impl_Matrix_kernel.mono : ∀ a0 a1 k, LeO (impl_Matrix_kernel.f k a0 a1) (impl_Matrix_kernel.f (k + 1) a0 a1) := by
 intro a0 a1 k
 obtain ⟨ih0, ih1, ih2⟩ := impl_Matrix_kernel.mono_l k
 unfold impl_Matrix_kernel.f
 repeat' first
  | (with_reducible first | apply ih0 | apply ih1 | apply ih2 | apply impl_Matrix_form.mono | apply impl_echelon.mono | apply impl_lead.mono | exact LeO.refl _ | exact LeO.none _ | refine LeO.ite ?_ ?_ | refine LeO.bind ?_ (fun _ => ?_))
  | exact LeO.none _
  | refine LeO.ite ?_ ?_
  | refine LeO.bind ?_ (fun _ => ?_)
theorem impl_Matrix_kernel.calls (k : Nat) (a0_0 : Int) (A0_1 : Option Addr) (c0_1 : Nat) (l0_1 : List Int) (r1 : Int) (r2 : List Int) (w : World) (hr0_1 : Kd.C (Kd.int .i64) w A0_1 l0_1.length l0_1) (hc0_1 : l0_1.length ≤ c0_1) (h : impl_Matrix_kernel.f k a0_0 l0_1 = some (r1, r2)) :
 Calls Try.prog 56 #[.agg #[.int .i64 a0_0, .slice A0_1 l0_1.length c0_1]] w fun e w' => ∃ v1_ : Value, e = .returned (.agg #[.int .i64 r1, v1_]) ∧ Kd.R (Kd.int .i64) 2 w' w.heap.size (fun _ => True) v1_ r2 ∧ Below w.heap.size w w' := by
 have hu63 := Try.underlying63
 have HR0_1 := Aq.mk hr0_1
 have HC0_1 := Aq.mk hc0_1
 clear hr0_1 hc0_1
 have HB := Aq.mk (Below.refl w.heap.size w)
 have H : ((impl_echelon.f k l0_1).bind fun t684 => (impl_Matrix_kernel.l0 k t684 0 t684 (t684.length : Int) 0 a0_0 l0_1)) = some (r1, r2) := h
 clear h
 obtain ⟨t684, A2, H⟩ := qBd H
 replace H' := Aq.mk H
 clear H
 go_enter Try.func56, Try.ntmps56
 go_wp2_with (first | ((with_reducible refine gQd (N := 1) rfl ?_); refine xQe ?hg (N := 1) ?hd (cs := #[.int .i64 a0_0, .slice A0_1 l0_1.length c0_1]) (t := 63) ?hr ?_; (case hd => rfl); (case hg => rfl); (case hr => exact tH); intro gb682 hg w3 hbox hb; refine qM4 (bQT tB hb) hbox (tZ w hg) (tZ w hg) ?_; clear HB; intro HB BK682 GW682 GE682; clear hb hbox hg) | ((with_reducible refine gQd (N := 2) rfl ?_); refine xQe ?hg (N := 2) ?hd (cs := #[.int .i64 0, .slice none 0 0]) (t := 63) ?hr ?_; (case hd => rfl); (case hg => rfl); (case hr => exact tH); intro gb683 hg w4 hbox hb; refine qM7 (tQ BK682.out hb) (bQT tB hb) hbox (tZ w hg) (tZ w hg) ((by rw [hg]; exact Nat.ne_of_lt (blk_lt (g := gb682) (o := .cells #[.int .i64 a0_0, .slice A0_1 l0_1.length c0_1] 63 (0, 0)) (tG BK682.out)) : gb682 ≠ gb683)) ((by rw [hg]; exact Nat.ne_of_gt (blk_lt (g := gb682) (o := .cells #[.int .i64 a0_0, .slice A0_1 l0_1.length c0_1] 63 (0, 0)) (tG BK682.out)) : gb683 ≠ gb682)) ?_; clear BK682 HB; intro BK682 HB BK683 GW683 GE683 NB682_683 NB683_682; clear hb hbox hg; have hnb5 := NB682_683.out; have hnc5 := NB683_682.out; have hcz6_0 : w4.cell? ⟨gb682, 0, none⟩ = some (.int .i64 a0_0) := (kQC BK682.out 0).trans rfl; have hcz6_1 : w4.cell? ⟨gb682, 1, none⟩ = some (.slice A0_1 l0_1.length c0_1) := (kQC BK682.out 1).trans rfl; have hfz6_0 := kQF BK682.out 0; have hfz6_1 := kQF BK682.out 1) | ((with_reducible refine gQc (f := 86) rfl ?_); refine goesL_ (some 14) rfl rfl Try.func86 (by kernel_rfl) rfl #[.slice A0_1 l0_1.length c0_1] rfl tL ?_; (with_reducible refine (impl_echelon.calls k _ _ l0_1 t684 _ ?s1 ?s2 A2.out).mono ?_); (case s1 => exact tC ((Kd.C_below HR0_1.out HB.out))); (case s2 => exact HC0_1.out); rintro e w7 ⟨v685, rfl, ho0, hb⟩; refine ⟨_, rfl, ?_⟩; refine qM4 (Kd.R_lower ho0 (bQZ tB)) (tQ BK682.out hb) (tQ BK683.out hb) (bQT tB hb) ?_; clear BK682 BK683 HB; intro HO686 BK682 BK683 HB; (try clear hb); (try clear hb2); (try clear hk); (try clear hi); (try clear ho0); obtain ⟨Ao8, co8, eo8⟩ := Kd.R_slice HO686.out; subst eo8))
 go_loopg [4, 17] k (fun kq v4 v17 w' => ∃ (x4_1 : Int) (x17_1 : Int), v4 = .int .i64 x4_1 ∧ v17 = .int .i64 x17_1 ∧ Aq (impl_Matrix_kernel.l0 kq t684 x4_1 t684 (t684.length : Int) x17_1 a0_0 l0_1 = some (r1, r2)) ∧ Aq (kq ≤ k) ∧ Aq (Kd.R (Kd.int .i64) 2 w' w.heap.size (fun _ => True) (.slice Ao8 t684.length co8) t684) ∧ Aq (Kd.R (Kd.int .i64) 2 w' w.heap.size (fun _ => True) (.slice Ao8 t684.length co8) t684) ∧ Aq (w'.heap[gb682]? = some (.cells #[.int .i64 a0_0, (.slice A0_1 l0_1.length c0_1)] 63 (0, 0))) ∧ Aq (w'.heap[gb683]? = some (.cells #[.int .i64 0, (.slice none 0 0)] 63 (0, 0))) ∧ Aq (Below w.heap.size w w'))
 case atStart => exact ⟨(0), (0), tS, tS, H', ⟨Nat.le_refl _⟩, ⟨tR HO686.out⟩, ⟨tR HO686.out⟩, ⟨tG BK682.out⟩, ⟨tG BK683.out⟩, ⟨tB⟩⟩
 clear H'
 try clear hcz6_0
 try clear hcz6_1
 try clear hfz6_0
 try clear hfz6_1
 obtain ⟨x4_1, x17_1, rfl, rfl, HA, HK1, HO_3, HO_15, BK682, BK683, HB⟩ := hrel
 cases gk with
 | zero => exact absurd HA.out (by simp [impl_Matrix_kernel.l0])
 | succ k1 =>
  have H := HA.out
  clear HA
  simp only [impl_Matrix_kernel.l0] at H
  by_cases c9 : x17_1 < (t684.length : Int)
  ·rw [if_pos c9] at H
   have c9b0 := decide_eq_true c9
   clear c9
   by_cases c10 : 0 ≤ x17_1
   rotate_left
   ·rw [if_neg c10] at H
    exact absurd H (by simp)
   rw [if_pos c10] at H
   have c10b0 := decide_eq_true c10
   clear c10
   by_cases c11 : x17_1 < (t684.length : Int)
   rotate_left
   ·rw [if_neg c11] at H
    exact absurd H (by simp)
   rw [if_pos c11] at H
   have c11b0 := decide_eq_true c11
   clear c11
   obtain ⟨t688, A12, H⟩ := qBd H
   by_cases c13 : 0 ≤ t688
   rotate_left
   ·rw [if_neg c13] at H
    exact absurd H (by simp)
   rw [if_pos c13] at H
   have c13b0 := eq_true c13
   have c13b1 := decide_eq_true c13
   clear c13
   obtain ⟨ji14, hji14⟩ : ∃ j_ : Int, (shl .i64 1 t688) = j_ := ⟨_, rfl⟩
   first | rw [hji14] at H | simp only [hji14] at H | skip
   (try rw [hji14] at A12)
   have hji14_ : (IntKind.i64.wrap (1 * 2 ^ min t688.toNat 64)) = ji14 := hji14
   have hji14z : t688 ≤ 64 → (IntKind.i64.wrap (1 * 2 ^ t688.toNat)) = ji14 := shl_small hji14
   have hji14u : (IntKind.i64.wrap (2 ^ min t688.toNat 64)) = ji14 := by have h_ := hji14_; rw [Int.one_mul] at h_; exact h_
   have hji14v : t688 ≤ 64 → (IntKind.i64.wrap (2 ^ t688.toNat)) = ji14 := fun hle_ => by have h_ := hji14z hle_; rw [Int.one_mul] at h_; exact h_
   have hji14y : (wrap64 (1 * 2 ^ min t688.toNat 64)) = ji14 := (i64_w _).symm.trans hji14_
   have hji14x : t688 ≤ 64 → (wrap64 (1 * 2 ^ t688.toNat)) = ji14 := fun h_ => (i64_w _).symm.trans (hji14z h_)
   replace H' := Aq.mk H
   clear H
   have p687 : 0 ≤ (x17_1 : Int) := of_decide_eq_true tA
   have q687 : x17_1 < (t684.length : Int) := of_decide_eq_true tA
   obtain ⟨ad687, e687, hx687_0⟩ := Kd.at_int (Kd.R_reads' HO_15.out).2.2 x17_1 p687 q687
   cases e687
   replace p687 := eq_true p687
   replace q687 := eq_true q687
   go_wp2_with (first | ((with_reducible refine gQc (f := 87) rfl ?_); refine goesL_ (some 23) rfl rfl Try.func87 (by kernel_rfl) rfl #[.int .i64 (rd t684 x17_1)] rfl tL ?_; (with_reducible refine (impl_lead.calls k1 (rd t684 x17_1) t688 _ A12.out).mono ?_); rintro e w' ⟨rfl, ⟨nd, rfl⟩⟩; refine ⟨_, rfl, ?_⟩))
   go_roundg k1
   case measure => have := HK1.out; omega
   case rel => exact ⟨(Go.bits .or .i64 x4_1 (ji14)), (wrap64 (x17_1 + 1)), (by first | rfl | (simp; done) | (simp only [← hji14] <;> (first | rfl | simp)) | (simp [*]; done)), tS, H', ⟨by have := HK1.out; omega⟩, ⟨tR HO_3.out⟩, ⟨tR HO_15.out⟩, ⟨tG BK682.out⟩, ⟨tG BK683.out⟩, ⟨tB⟩⟩
  rw [if_neg c9] at H
  have c9b0 := decide_eq_false c9
  clear c9
  replace H' := Aq.mk H
  clear H
  have hnb15 := NB682_683.out
  have hnc15 := NB683_682.out
  have hcz16_0 : wr.cell? ⟨gb682, 0, none⟩ = some (.int .i64 a0_0) := (kQC BK682.out 0).trans rfl
  have hcz16_1 : wr.cell? ⟨gb682, 1, none⟩ = some (.slice A0_1 l0_1.length c0_1) := (kQC BK682.out 1).trans rfl
  have hfz16_0 := kQF BK682.out 0
  have hfz16_1 := kQF BK682.out 1
  go_wp2_with (first | ((with_reducible refine gQd (N := 7) rfl ?_); refine xQe ?hg (N := 7) ?hd (cs := #[.int .i64 0, .slice none 0 0]) (t := 63) ?hr ?_; (case hd => rfl); (case hg => rfl); (case hr => exact tH); intro gb689 hg w17 hbox hb; refine qM12 (Kd.R_below (tR HO_3.out) hb) (Kd.R_below (tR HO_15.out) hb) (tQ BK682.out hb) (tQ BK683.out hb) (bQT tB hb) hbox (tZ w hg) (tZ w hg) ((by rw [hg]; exact Nat.ne_of_lt (blk_lt (g := gb682) (o := .cells #[.int .i64 a0_0, .slice A0_1 l0_1.length c0_1] 63 (0, 0)) (tG BK682.out)) : gb682 ≠ gb689)) ((by rw [hg]; exact Nat.ne_of_gt (blk_lt (g := gb682) (o := .cells #[.int .i64 a0_0, .slice A0_1 l0_1.length c0_1] 63 (0, 0)) (tG BK682.out)) : gb689 ≠ gb682)) ((by rw [hg]; exact Nat.ne_of_lt (blk_lt (g := gb683) (o := .cells #[.int .i64 0, .slice none 0 0] 63 (0, 0)) (tG BK683.out)) : gb683 ≠ gb689)) ((by rw [hg]; exact Nat.ne_of_gt (blk_lt (g := gb683) (o := .cells #[.int .i64 0, .slice none 0 0] 63 (0, 0)) (tG BK683.out)) : gb689 ≠ gb683)) ?_; clear HO_3 HO_15 BK682 BK683 HB; intro HO_3 HO_15 BK682 BK683 HB BK689 GW689 GE689 NB682_689 NB689_682 NB683_689 NB689_683; clear hb hbox hg; have hnb18 := NB689_682.out; have hnc18 := NB682_689.out; have hnb19 := NB689_683.out; have hnc19 := NB683_689.out; have hcz20_0 : w17.cell? ⟨gb689, 0, none⟩ = some (.int .i64 0) := (kQC BK689.out 0).trans rfl; have hcz20_1 : w17.cell? ⟨gb689, 1, none⟩ = some (.slice none 0 0) := (kQC BK689.out 1).trans rfl; have hfz20_0 := kQF BK689.out 0; have hfz20_1 := kQF BK689.out 1; have hcz21_0 : w17.cell? ⟨gb682, 0, none⟩ = some (.int .i64 a0_0) := (kQC BK682.out 0).trans rfl; have hcz21_1 : w17.cell? ⟨gb682, 1, none⟩ = some (.slice A0_1 l0_1.length c0_1) := (kQC BK682.out 1).trans rfl; have hfz21_0 := kQF BK682.out 0; have hfz21_1 := kQF BK682.out 1))
  go_loopg [32] k1 (fun kq v32 w' => ∃ (x32_2 : Int) (x690001_2 : List Int) (u690001 : Value), v32 = .int .i64 x32_2 ∧ Aq (impl_Matrix_kernel.l1 kq t684 x4_1 a0_0 x32_2 a0_0 x690001_2 = some (r1, r2)) ∧ Aq (kq ≤ k1) ∧ Aq (Kd.R (Kd.int .i64) 2 w' w.heap.size (fun k_ => some k_ ≠ (u690001 : Value).ownBlock) (.slice Ao8 t684.length co8) t684) ∧ Aq (Kd.R (Kd.int .i64) 2 w' w.heap.size (fun k_ => some k_ ≠ ((.slice Ao8 t684.length co8) : Value).ownBlock) u690001 x690001_2) ∧ Aq (w'.heap[gb682]? = some (.cells #[.int .i64 a0_0, (.slice A0_1 l0_1.length c0_1)] 63 (0, 0))) ∧ Aq (w'.heap[gb683]? = some (.cells #[.int .i64 0, (.slice none 0 0)] 63 (0, 0))) ∧ Aq (w'.heap[gb689]? = some (.cells #[.int .i64 a0_0, u690001] 63 (0, 0))) ∧ Aq (Below w.heap.size w w'))
  case atStart => exact ⟨(0), (([] : List Int)), (.slice none 0 0), tS, H', ⟨Nat.le_refl _⟩, ⟨by (with_reducible repeat (first | apply Kd.RqA | apply Kd.RqN | apply Kd.RqD)); exact Kd.R_mono (Kd.R_far (p := ⟨gb689, 1, none⟩) (Kd.R_far (p := ⟨gb689, 0, none⟩) (Kd.R_types HO_3.out BK689.out (by decide)) (fun _ hk => hk.2) (.int .i64 a0_0)) (fun _ hk => hk.2) (.slice none 0 0)) (fun _ hk => (by simp [Value.ownBlock]))⟩, ⟨by first | exact Kd.R_nil _ _ _ _ _ | exact Kd.N_nil _ _ _ _ _ | exact Kd.V_nil _ _ _ _ _ | exact Kd.Q_nil _ _ _ _ _ | exact Kd.S_nil _ _ _ _ _⟩, ⟨by (with_reducible repeat (first | refine kQN ?_ _ | refine kQD ?_ | refine kQA ?_ _)); refine kQR ?_ NB682_689.out _; (with_reducible repeat (first | refine kQN ?_ _ | refine kQD ?_ | refine kQA ?_ _)); refine kQR ?_ NB682_689.out _; (with_reducible repeat (first | refine kQN ?_ _ | refine kQD ?_ | refine kQA ?_ _)); exact BK682.out⟩, ⟨by (with_reducible repeat (first | refine kQN ?_ _ | refine kQD ?_ | refine kQA ?_ _)); refine kQR ?_ NB683_689.out _; (with_reducible repeat (first | refine kQN ?_ _ | refine kQD ?_ | refine kQA ?_ _)); refine kQR ?_ NB683_689.out _; (with_reducible repeat (first | refine kQN ?_ _ | refine kQD ?_ | refine kQA ?_ _)); exact BK683.out⟩, ⟨by (with_reducible repeat (first | refine kQN ?_ _ | refine kQD ?_ | refine kQA ?_ _)); refine kQP (cs := #[.int .i64 a0_0, .slice none 0 0]) ?_ 1 _ rfl; (with_reducible repeat (first | refine kQN ?_ _ | refine kQD ?_ | refine kQA ?_ _)); refine kQP (cs := #[.int .i64 0, .slice none 0 0]) ?_ 0 _ rfl; (with_reducible repeat (first | refine kQN ?_ _ | refine kQD ?_ | refine kQA ?_ _)); exact BK689.out⟩, ⟨tB⟩⟩
  clear H'
  try clear c9
  try clear c9b0
  try clear c10
  try clear c10b0
  try clear c11
  try clear c11b0
  try clear c13
  try clear c13b0
  try clear c13b1
  try clear hcz16_0
  try clear hcz16_1
  try clear hcz20_0
  try clear hcz20_1
  try clear hcz21_0
  try clear hcz21_1
  try clear hcz6_0
  try clear hcz6_1
  try clear hfz16_0
  try clear hfz16_1
  try clear hfz20_0
  try clear hfz20_1
  try clear hfz21_0
  try clear hfz21_1
  try clear hfz6_0
  try clear hfz6_1
  try clear hx687_0
  try clear p687
  try clear q687
  obtain ⟨x32_2, x690001_2, u690001, rfl, HA, HK2, HO_3, HO_690001, BK682, BK683, BK689, HB⟩ := hrel
  cases gk with
  | zero => exact absurd HA.out (by simp [impl_Matrix_kernel.l1])
  | succ k2 =>
   have H := HA.out
   clear HA
   simp only [impl_Matrix_kernel.l1] at H
   by_cases c22 : x32_2 < a0_0
   rotate_left
   ·rw [if_neg c22] at H
    have c22b0 := decide_eq_false c22
    clear c22
    obtain ⟨⟨t690, t691⟩, A44, H⟩ := qBd H
    (try dsimp only at H)
    simp only [Option.some.injEq, Prod.mk.injEq] at H
    obtain ⟨rfl, rfl⟩ := H
    have hnb45 := NB689_682.out
    have hnc45 := NB682_689.out
    have hnb46 := NB689_683.out
    have hnc46 := NB683_689.out
    have hcz47_0 : wr.cell? ⟨gb689, 0, none⟩ = some (.int .i64 a0_0) := (kQC BK689.out 0).trans rfl
    have hcz47_1 : wr.cell? ⟨gb689, 1, none⟩ = some (u690001) := (kQC BK689.out 1).trans rfl
    have hfz47_0 := kQF BK689.out 0
    have hfz47_1 := kQF BK689.out 1
    obtain ⟨Ao48, co48, eo48⟩ := Kd.R_slice HO_690001.out
    subst eo48
    go_wp2_with (first | ((with_reducible refine gQc (f := 88) rfl ?_); refine goesL_ (some 67) rfl rfl Try.func88 (by kernel_rfl) rfl #[.agg #[.int .i64 a0_0, .slice Ao48 x690001_2.length co48]] rfl tL ?_; (with_reducible refine (impl_Matrix_form.calls k2 a0_0 _ _ x690001_2 t690 t691 _ ?s1 ?s2 A44.out).mono ?_); (case s1 => exact tC ((Kd.R_reads' HO_690001.out).2.2)); (case s2 => exact (Kd.R_reads' HO_690001.out).2.1); rintro e w49 ⟨v692, rfl, ho0, hb⟩; refine ⟨_, rfl, ?_⟩; refine qM7 (Kd.R_elder' (tR HO_3.out) (Kd.R_base ho0) hb) (Kd.R_elder' (tR HO_690001.out) (Kd.R_base ho0) hb) (Kd.R_lower (Kd.R_new' (Kd.R_new' ho0 (Kd.R_lt (tR HO_3.out))) (Kd.R_lt (tR HO_690001.out))) (bQZ tB)) (tQ BK682.out hb) (tQ BK683.out hb) (tQ BK689.out hb) (bQT tB hb) ?_; clear HO_3 HO_690001 BK682 BK683 BK689 HB; intro HO_3 HO_690001 HO693 BK682 BK683 BK689 HB; (try clear hb); (try clear hb2); (try clear hk); (try clear hi); (try clear ho0); have hnb50 := NB683_682.out; have hnc50 := NB682_683.out; have hcz51_0 : w49.cell? ⟨gb683, 0, none⟩ = some (.int .i64 0) := (kQC BK683.out 0).trans rfl; have hcz51_1 : w49.cell? ⟨gb683, 1, none⟩ = some (.slice none 0 0) := (kQC BK683.out 1).trans rfl; have hfz51_0 := kQF BK683.out 0; have hfz51_1 := kQF BK683.out 1; obtain ⟨Ao52, co52, eo52⟩ := Kd.R_slice HO693.out; subst eo52))
    refine bodyPost_ret (results_cell_row rfl _ _ gb683 63 #[.int .i64 t690, .slice Ao52 t691.length co52] (0, 0) _ rfl (by (with_reducible repeat (first | refine kQN ?_ _ | refine kQD ?_ | refine kQA ?_ _)); refine kQP (cs := #[.int .i64 t690, .slice none 0 0]) ?_ 1 _ rfl; (with_reducible repeat (first | refine kQN ?_ _ | refine kQD ?_ | refine kQA ?_ _)); refine kQP (cs := #[.int .i64 0, .slice none 0 0]) ?_ 0 _ rfl; (with_reducible repeat (first | refine kQN ?_ _ | refine kQD ?_ | refine kQA ?_ _)); exact BK683.out) Try.underlying63 rfl (by kernel_rfl)) rfl ?_
    exact ⟨_, tE, by (with_reducible repeat (first | apply Kd.RqA | apply Kd.RqN | apply Kd.RqD)); exact Kd.R_mono (Kd.R_far (p := ⟨gb683, 1, none⟩) (Kd.R_far (p := ⟨gb683, 0, none⟩) (Kd.R_types HO693.out BK683.out (by decide)) (fun _ hk => hk.2) (.int .i64 t690)) (fun _ hk => hk.2) (.slice Ao52 t691.length co52)) (fun _ hk => trivial), tB⟩
   rw [if_pos c22] at H
   have c22b0 := decide_eq_true c22
   clear c22
   by_cases c23 : 0 ≤ x32_2
   rotate_left
   ·rw [if_neg c23] at H
    exact absurd H (by simp)
   rw [if_pos c23] at H
   have c23b0 := eq_true c23
   have c23b1 := decide_eq_true c23
   clear c23
   obtain ⟨ji24, hji24⟩ : ∃ j_ : Int, (shr .i64 x4_1 x32_2) = j_ := ⟨_, rfl⟩
   first | rw [hji24] at H | simp only [hji24] at H | skip
   have hji24_ : (x4_1 / 2 ^ min x32_2.toNat 64) = ji24 := hji24
   have hji24z : x32_2 ≤ 64 → (x4_1 / 2 ^ x32_2.toNat) = ji24 := shr_small hji24
   by_cases c25 : (Go.bits .and .i64 (ji24) 1) = 1
   ·rw [if_pos c25] at H
    have c25b0 := beq_iff_eq.mpr c25
    have c25b1 := bne_eq_false_iff_eq.mpr c25
    clear c25
    replace H' := Aq.mk H
    clear H
    go_wp2
    go_roundg k2
    case measure => have := HK1.out; have := HK2.out; omega
    case rel => exact ⟨(wrap64 (x32_2 + 1)), (x690001_2), (u690001), tS, H', ⟨by have := HK1.out; have := HK2.out; omega⟩, ⟨tR HO_3.out⟩, ⟨tR HO_690001.out⟩, ⟨tG BK682.out⟩, ⟨tG BK683.out⟩, ⟨tG BK689.out⟩, ⟨tB⟩⟩
   rw [if_neg c25] at H
   have c25b0 := beq_eq_false_iff_ne.mpr c25
   have c25b1 := bne_iff_ne.mpr c25
   have c26b0 := eq_true (of_decide_eq_true tA : 0 ≤ x32_2)
   obtain ⟨ji27, hji27⟩ : ∃ j_ : Int, (shl .i64 1 x32_2) = j_ := ⟨_, rfl⟩
   first | rw [hji27] at H | simp only [hji27] at H | skip
   have hji27_ : (IntKind.i64.wrap (1 * 2 ^ min x32_2.toNat 64)) = ji27 := hji27
   have hji27z : x32_2 ≤ 64 → (IntKind.i64.wrap (1 * 2 ^ x32_2.toNat)) = ji27 := shl_small hji27
   have hji27u : (IntKind.i64.wrap (2 ^ min x32_2.toNat 64)) = ji27 := by have h_ := hji27_; rw [Int.one_mul] at h_; exact h_
   have hji27v : x32_2 ≤ 64 → (IntKind.i64.wrap (2 ^ x32_2.toNat)) = ji27 := fun hle_ => by have h_ := hji27z hle_; rw [Int.one_mul] at h_; exact h_
   have hji27y : (wrap64 (1 * 2 ^ min x32_2.toNat 64)) = ji27 := (i64_w _).symm.trans hji27_
   have hji27x : x32_2 ≤ 64 → (wrap64 (1 * 2 ^ x32_2.toNat)) = ji27 := fun h_ => (i64_w _).symm.trans (hji27z h_)
   replace H' := Aq.mk H
   clear H
   go_wp2
   go_loopg [9, 44] k2 (fun kq v9 v44 w' => ∃ (x9_3 : Int) (x44_3 : Int), v9 = .int .i64 x9_3 ∧ v44 = .int .i64 x44_3 ∧ Aq (impl_Matrix_kernel.l2 kq t684 x4_1 x32_2 x9_3 a0_0 x32_2 t684 (t684.length : Int) x44_3 a0_0 x690001_2 = some (r1, r2)) ∧ Aq (kq ≤ k2) ∧ Aq (Kd.R (Kd.int .i64) 2 w' w.heap.size (fun k_ => some k_ ≠ (u690001 : Value).ownBlock) (.slice Ao8 t684.length co8) t684) ∧ Aq (Kd.R (Kd.int .i64) 2 w' w.heap.size (fun k_ => some k_ ≠ (u690001 : Value).ownBlock) (.slice Ao8 t684.length co8) t684) ∧ Aq (Kd.R (Kd.int .i64) 2 w' w.heap.size (fun k_ => some k_ ≠ ((.slice Ao8 t684.length co8) : Value).ownBlock ∧ some k_ ≠ ((.slice Ao8 t684.length co8) : Value).ownBlock) u690001 x690001_2) ∧ Aq (w'.heap[gb682]? = some (.cells #[.int .i64 a0_0, (.slice A0_1 l0_1.length c0_1)] 63 (0, 0))) ∧ Aq (w'.heap[gb683]? = some (.cells #[.int .i64 0, (.slice none 0 0)] 63 (0, 0))) ∧ Aq (w'.heap[gb689]? = some (.cells #[.int .i64 a0_0, u690001] 63 (0, 0))) ∧ Aq (Below w.heap.size w w'))
   case atStart => exact ⟨(ji27), (0), (by first | rfl | (simp; done) | (simp only [← hji27] <;> (first | rfl | simp)) | (simp [*]; done)), tS, H', ⟨Nat.le_refl _⟩, ⟨tR HO_3.out⟩, ⟨tR HO_3.out⟩, ⟨by (with_reducible repeat (first | apply Kd.RqA | apply Kd.RqN | apply Kd.RqD)); exact Kd.R_mono HO_690001.out (fun _ hk => ⟨hk, hk⟩)⟩, ⟨tG BK682.out⟩, ⟨tG BK683.out⟩, ⟨tG BK689.out⟩, ⟨tB⟩⟩
   clear H'
   try clear c9
   try clear c9b0
   try clear c10
   try clear c10b0
   try clear c11
   try clear c11b0
   try clear c13
   try clear c13b0
   try clear c13b1
   try clear c22
   try clear c22b0
   try clear c23
   try clear c23b0
   try clear c23b1
   try clear c25
   try clear c25b0
   try clear c25b1
   try clear c26b0
   try clear hcz16_0
   try clear hcz16_1
   try clear hcz20_0
   try clear hcz20_1
   try clear hcz21_0
   try clear hcz21_1
   try clear hcz6_0
   try clear hcz6_1
   try clear hfz16_0
   try clear hfz16_1
   try clear hfz20_0
   try clear hfz20_1
   try clear hfz21_0
   try clear hfz21_1
   try clear hfz6_0
   try clear hfz6_1
   try clear hx687_0
   try clear p687
   try clear q687
   obtain ⟨x9_3, x44_3, rfl, rfl, HA, HK3, HO_3, HO_42, HO_690001, BK682, BK683, BK689, HB⟩ := hrel
   cases gk with
   | zero => exact absurd HA.out (by simp [impl_Matrix_kernel.l2])
   | succ k3 =>
    have H := HA.out
    clear HA
    simp only [impl_Matrix_kernel.l2] at H
    by_cases c28 : x44_3 < (t684.length : Int)
    rotate_left
    ·rw [if_neg c28] at H
     have c28b0 := decide_eq_false c28
     clear c28
     by_cases c37 : x690001_2.length < 17592186044416
     rotate_left
     ·rw [if_neg c37] at H
      exact absurd H (by simp)
     rw [if_pos c37] at H
     have LMc37 := Aq.mk c37
     clear c37
     obtain ⟨y696, hy696⟩ : ∃ y_ : List Int, y_ = (x690001_2 ++ [x9_3]) := ⟨_, rfl⟩
     replace H : (impl_Matrix_kernel.l1 k3 t684 x4_1 a0_0 (wrap64 (x32_2 + 1)) a0_0 y696) = some (r1, r2) := by first | (rw [hy696]; with_reducible exact H) | (have H2_ := (Option.bind_some _ _).symm.trans H; rw [hy696]; with_reducible exact H2_) | (have H2_ := (Option.bind_some _ _).symm.trans H; with_reducible exact H2_) | with_reducible exact H | (rw [hy696]; exact H) | exact H
     have Ny696 := Aq.mk hy696
     clear hy696
     replace H' := Aq.mk H
     clear H
     have hnb38 := NB689_682.out
     have hnc38 := NB682_689.out
     have hnb39 := NB689_683.out
     have hnc39 := NB683_689.out
     have hcz40_0 : wr.cell? ⟨gb689, 0, none⟩ = some (.int .i64 a0_0) := (kQC BK689.out 0).trans rfl
     have hcz40_1 : wr.cell? ⟨gb689, 1, none⟩ = some (u690001) := (kQC BK689.out 1).trans rfl
     have hfz40_0 := kQF BK689.out 0
     have hfz40_1 := kQF BK689.out 1
     go_wp2_with (first | ((with_reducible refine gate_builtin (b := .append) (xs := #[.tmp 60, .tmp 62]) rfl ?_); at_builtin; refine Kd.R_append (Kd.int .i64) (w0 := w) w.heap.size rfl (.tmp 60) (.tmp 62) 38 2 (.int .i64 0) 8 rfl Try.underlying38 info2 rfl (by decide) (by omega) u690001 x690001_2 x9_3 [.int .i64 x9_3] (fun k_ => some k_ ≠ (.slice Ao8 t684.length co8 : Value).ownBlock ∧ some k_ ≠ (.slice Ao8 t684.length co8 : Value).ownBlock) (fun _ => False) rfl rfl ?aP (fun _ hk => hk.elim) ?aF ?aO ?aB ?aS ?aL ?_; (case aP => exact rfl); (case aB => exact tB); (case aF => exact (fun k_ hk => ⟨Kd.fresh' (Kd.R_lt (tR HO_3.out)) k_ hk, Kd.fresh' (Kd.R_lt (tR HO_42.out)) k_ hk⟩)); (case aO => exact (tR HO_690001.out)); (case aS => exact (bQZ tB)); (case aL => have := LMc37.out; omega); intro v697 w41 ho hb hg hat; rw [← Ny696.out] at ho; refine qM7 (Kd.R_after (ok := (fun _ => True)) (by (with_reducible repeat (first | apply Kd.RqA | apply Kd.RqN | apply Kd.RqD)); exact Kd.R_mono HO_3.out (fun _ hk => ⟨trivial, hk⟩)) hg hat) (Kd.R_after (ok := (fun _ => True)) (by (with_reducible repeat (first | apply Kd.RqA | apply Kd.RqN | apply Kd.RqD)); exact Kd.R_mono HO_42.out (fun _ hk => ⟨trivial, hk⟩)) hg hat) (blk_grown (g := gb682) (o := .cells #[.int .i64 a0_0, .slice A0_1 l0_1.length c0_1] 63 (0, 0)) (tG BK682.out) hg (Kd.R_ne HO_690001.out BK682.out (by decide))) (blk_grown (g := gb683) (o := .cells #[.int .i64 0, .slice none 0 0] 63 (0, 0)) (tG BK683.out) hg (Kd.R_ne HO_690001.out BK683.out (by decide))) (blk_grown (g := gb689) (o := .cells #[.int .i64 a0_0, u690001] 63 (0, 0)) (tG BK689.out) hg (Kd.R_ne HO_690001.out BK689.out (by decide))) hb ho ?_; clear HO_3 HO_42 BK682 BK683 BK689 HB HO_690001; intro HO_3 HO_42 BK682 BK683 BK689 HB HO698; clear ho hb hg hat; obtain ⟨Ao42, co42, eo42⟩ := Kd.R_slice HO698.out; subst eo42; have hcz43_0 : w41.cell? ⟨gb689, 0, none⟩ = some (.int .i64 a0_0) := (kQC BK689.out 0).trans rfl; have hcz43_1 : w41.cell? ⟨gb689, 1, none⟩ = some (u690001) := (kQC BK689.out 1).trans rfl; have hfz43_0 := kQF BK689.out 0; have hfz43_1 := kQF BK689.out 1))
     go_roundg k3
     case measure => have := HK1.out; have := HK2.out; have := HK3.out; omega
     case rel => exact ⟨(wrap64 (x32_2 + 1)), (y696), (.slice Ao42 y696.length co42), tS, H', ⟨by have := HK1.out; have := HK2.out; have := HK3.out; omega⟩, ⟨by (with_reducible repeat (first | apply Kd.RqA | apply Kd.RqN | apply Kd.RqD)); exact Kd.R_mono (Kd.R_far (p := ⟨gb689, 1, none⟩) (Kd.R_types HO_3.out BK689.out (by decide)) (fun _ hk => hk.2) (.slice Ao42 y696.length co42)) (fun _ hk => hk.1.2)⟩, ⟨by (with_reducible repeat (first | apply Kd.RqA | apply Kd.RqN | apply Kd.RqD)); exact Kd.R_mono (Kd.R_far (p := ⟨gb689, 1, none⟩) (Kd.R_types HO698.out BK689.out (by decide)) (fun _ hk => hk.2) (.slice Ao42 y696.length co42)) (fun _ hk => hk.1.1)⟩, ⟨by (with_reducible repeat (first | refine kQN ?_ _ | refine kQD ?_ | refine kQA ?_ _)); refine kQR ?_ NB682_689.out _; (with_reducible repeat (first | refine kQN ?_ _ | refine kQD ?_ | refine kQA ?_ _)); exact BK682.out⟩, ⟨by (with_reducible repeat (first | refine kQN ?_ _ | refine kQD ?_ | refine kQA ?_ _)); refine kQR ?_ NB683_689.out _; (with_reducible repeat (first | refine kQN ?_ _ | refine kQD ?_ | refine kQA ?_ _)); exact BK683.out⟩, ⟨by (with_reducible repeat (first | refine kQN ?_ _ | refine kQD ?_ | refine kQA ?_ _)); refine kQP (cs := #[.int .i64 a0_0, u690001]) ?_ 1 _ rfl; (with_reducible repeat (first | refine kQN ?_ _ | refine kQD ?_ | refine kQA ?_ _)); exact BK689.out⟩, ⟨tB⟩⟩
    rw [if_pos c28] at H
    have c28b0 := decide_eq_true c28
    clear c28
    by_cases c29 : 0 ≤ x44_3
    rotate_left
    ·rw [if_neg c29] at H
     exact absurd H (by simp)
    rw [if_pos c29] at H
    have c29b0 := decide_eq_true c29
    clear c29
    by_cases c30 : x44_3 < (t684.length : Int)
    rotate_left
    ·rw [if_neg c30] at H
     exact absurd H (by simp)
    rw [if_pos c30] at H
    have c30b0 := decide_eq_true c30
    clear c30
    by_cases c31 : 0 ≤ x32_2
    rotate_left
    ·rw [if_neg c31] at H
     exact absurd H (by simp)
    rw [if_pos c31] at H
    have c31b0 := eq_true c31
    have c31b1 := decide_eq_true c31
    clear c31
    obtain ⟨ji32, hji32⟩ : ∃ j_ : Int, (shr .i64 (rd t684 x44_3) x32_2) = j_ := ⟨_, rfl⟩
    first | rw [hji32] at H | simp only [hji32] at H | skip
    have hji32_ : ((rd t684 x44_3) / 2 ^ min x32_2.toNat 64) = ji32 := hji32
    have hji32z : x32_2 ≤ 64 → ((rd t684 x44_3) / 2 ^ x32_2.toNat) = ji32 := shr_small hji32
    by_cases c33 : (Go.bits .and .i64 (ji32) 1) = 1
    rotate_left
    ·rw [if_neg c33] at H
     have c33b0 := beq_eq_false_iff_ne.mpr c33
     have c33b1 := bne_iff_ne.mpr c33
     replace H' := Aq.mk H
     clear H
     have p694 : 0 ≤ (x44_3 : Int) := of_decide_eq_true tA
     have q694 : x44_3 < (t684.length : Int) := of_decide_eq_true tA
     obtain ⟨ad694, e694, hx694_0⟩ := Kd.at_int (Kd.R_reads' HO_42.out).2.2 x44_3 p694 q694
     cases e694
     replace p694 := eq_true p694
     replace q694 := eq_true q694
     go_wp2
     go_roundg k3
     case measure => have := HK1.out; have := HK2.out; have := HK3.out; omega
     case rel => exact ⟨(x9_3), (wrap64 (x44_3 + 1)), tS, tS, H', ⟨by have := HK1.out; have := HK2.out; have := HK3.out; omega⟩, ⟨tR HO_3.out⟩, ⟨tR HO_42.out⟩, ⟨tR HO_690001.out⟩, ⟨tG BK682.out⟩, ⟨tG BK683.out⟩, ⟨tG BK689.out⟩, ⟨tB⟩⟩
    rw [if_pos c33] at H
    have c33b0 := beq_iff_eq.mpr c33
    have c33b1 := bne_eq_false_iff_eq.mpr c33
    clear c33
    obtain ⟨t695, A34, H⟩ := qBd H
    by_cases c35 : 0 ≤ t695
    rotate_left
    ·rw [if_neg c35] at H
     exact absurd H (by simp)
    rw [if_pos c35] at H
    have c35b0 := eq_true c35
    have c35b1 := decide_eq_true c35
    clear c35
    obtain ⟨ji36, hji36⟩ : ∃ j_ : Int, (shl .i64 1 t695) = j_ := ⟨_, rfl⟩
    first | rw [hji36] at H | simp only [hji36] at H | skip
    (try rw [hji36] at A34)
    have hji36_ : (IntKind.i64.wrap (1 * 2 ^ min t695.toNat 64)) = ji36 := hji36
    have hji36z : t695 ≤ 64 → (IntKind.i64.wrap (1 * 2 ^ t695.toNat)) = ji36 := shl_small hji36
    have hji36u : (IntKind.i64.wrap (2 ^ min t695.toNat 64)) = ji36 := by have h_ := hji36_; rw [Int.one_mul] at h_; exact h_
    have hji36v : t695 ≤ 64 → (IntKind.i64.wrap (2 ^ t695.toNat)) = ji36 := fun hle_ => by have h_ := hji36z hle_; rw [Int.one_mul] at h_; exact h_
    have hji36y : (wrap64 (1 * 2 ^ min t695.toNat 64)) = ji36 := (i64_w _).symm.trans hji36_
    have hji36x : t695 ≤ 64 → (wrap64 (1 * 2 ^ t695.toNat)) = ji36 := fun h_ => (i64_w _).symm.trans (hji36z h_)
    replace H' := Aq.mk H
    clear H
    have p694 : 0 ≤ (x44_3 : Int) := of_decide_eq_true tA
    have q694 : x44_3 < (t684.length : Int) := of_decide_eq_true tA
    obtain ⟨ad694, e694, hx694_0⟩ := Kd.at_int (Kd.R_reads' HO_42.out).2.2 x44_3 p694 q694
    cases e694
    replace p694 := eq_true p694
    replace q694 := eq_true q694
    go_wp2_with (first | ((with_reducible refine gQc (f := 87) rfl ?_); refine goesL_ (some 55) rfl rfl Try.func87 (by kernel_rfl) rfl #[.int .i64 (rd t684 x44_3)] rfl tL ?_; (with_reducible refine (impl_lead.calls k3 (rd t684 x44_3) t695 _ A34.out).mono ?_); rintro e w' ⟨rfl, ⟨nd, rfl⟩⟩; refine ⟨_, rfl, ?_⟩))
    go_roundg k3
    case measure => have := HK1.out; have := HK2.out; have := HK3.out; omega
    case rel => exact ⟨(Go.bits .or .i64 x9_3 (ji36)), (wrap64 (x44_3 + 1)), (by first | rfl | (simp; done) | (simp only [← hji36] <;> (first | rfl | simp)) | (simp [*]; done)), tS, H', ⟨by have := HK1.out; have := HK2.out; have := HK3.out; omega⟩, ⟨tR HO_3.out⟩, ⟨tR HO_42.out⟩, ⟨tR HO_690001.out⟩, ⟨tG BK682.out⟩, ⟨tG BK683.out⟩, ⟨tG BK689.out⟩, ⟨tB⟩⟩
end Go.Proofs.Ytbalkaphibnpcaa.P
