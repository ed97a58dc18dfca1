/- Functions of the program and what they tell, as the printing program wrote it. -/
import Derived.Test.YthjfilmdobkmlaaPx0
import Derived.Test.YthjfilmdobkmlaaPx1
import Derived.Test.YthjfilmdobkmlaaPx13
namespace Go.Proofs.Ythjfilmdobkmlaa.P
open Go.Shelf Go.RowKit Go.Proofs.YthjfilmdobkmlaaW.PrintWords Go.Proofs.YthjfilmdobkmlaaW.PrintLast Go.Proofs.YthjfilmdobkmlaaW.PrintMore
attribute [local go_sem] max2_int min2_int max_two min_two max_three min_three max_four min_four
set_option linter.unusedVariables false
set_option linter.unusedSimpArgs false
set_option maxHeartbeats 8000000
set_option maxRecDepth 100000
mutual
def impl_Matrix_turned.l0 : Nat → Int → Int → Int → List Int → Int → List Int → Option (Int × List Int)
  | 0, _, _, _, _, _, _ => none
  | k + 1, x13, x14, x280000, x280001, x283000, x283001 => if x14 < x13 then (impl_Matrix_turned.l1 k x14 0 x13 x14 x280001 (x280001.length : Int) 0 x280000 x280001 x283000 x283001) else (some (x283000, x283001))
def impl_Matrix_turned.l1 : Nat → Int → Int → Int → Int → List Int → Int → Int → Int → List Int → Int → List Int → Option (Int × List Int)
  | 0, _, _, _, _, _, _, _, _, _, _, _ => none
  | k + 1, x4, x5, x13, x14, x18, x19, x20, x280000, x280001, x283000, x283001 => if x20 < x19 then (if 0 ≤ x20 then (if x20 < (x18.length : Int) then (if 0 ≤ x4 then (impl_Matrix_turned.l1 k x4 (Go.bits .or .i64 x5 (shl .i64 (Go.bits .and .i64 (shr .i64 (rd x18 x20) x4) 1) x20)) x13 x14 x18 x19 (wrap64 (x20 + 1)) x280000 x280001 x283000 x283001) else (none)) else (none)) else (none)) else (if x283001.length < 17592186044416 then (impl_Matrix_turned.l0 k x13 (wrap64 (x14 + 1)) x280000 x280001 x283000 (x283001 ++ [x5])) else (none))
end
def impl_Matrix_turned.f (k : Nat) (a0_0 : Int) (l0_1 : List Int) : Option (Int × List Int) := (impl_size_int64.f l0_1).bind fun t281 => (impl_Matrix_turned.l0 k a0_0 0 a0_0 l0_1 t281 ([] : List Int))
theorem impl_Matrix_turned.mono_l : ∀ k, (∀ y0 y1 y2 y3 y4 y5, LeO (impl_Matrix_turned.l0 k y0 y1 y2 y3 y4 y5) (impl_Matrix_turned.l0 (k + 1) y0 y1 y2 y3 y4 y5)) ∧ (∀ y0 y1 y2 y3 y4 y5 y6 y7 y8 y9 y10, LeO (impl_Matrix_turned.l1 k y0 y1 y2 y3 y4 y5 y6 y7 y8 y9 y10) (impl_Matrix_turned.l1 (k + 1) y0 y1 y2 y3 y4 y5 y6 y7 y8 y9 y10))
 | 0 => ⟨fun _ _ _ _ _ _ r h => by simp [impl_Matrix_turned.l0] at h, fun _ _ _ _ _ _ _ _ _ _ _ r h => by simp [impl_Matrix_turned.l1] at h⟩
 | k + 1 => by
  obtain ⟨ih0, ih1⟩ := impl_Matrix_turned.mono_l k
  refine ⟨?_, ?_⟩ <;> intros <;> first | unfold impl_Matrix_turned.l0 | unfold impl_Matrix_turned.l1
  all_goals repeat' first
   | (with_reducible first | apply ih0 | apply ih1 | exact LeO.refl _ | exact LeO.none _ | refine LeO.ite ?_ ?_ | refine LeO.bind ?_ (fun _ => ?_))
   | exact LeO.none _
   | refine LeO.ite ?_ ?_
   | refine LeO.bind ?_ (fun _ => ?_)
theorem impl_Matrix_turned.mono : ∀ a0 a1 k, LeO (impl_Matrix_turned.f k a0 a1) (impl_Matrix_turned.f (k + 1) a0 a1) := by
 intro a0 a1 k
 obtain ⟨ih0, ih1⟩ := impl_Matrix_turned.mono_l k
 unfold impl_Matrix_turned.f
 repeat' first
  | (with_reducible first | apply ih0 | apply ih1 | exact LeO.refl _ | exact LeO.none _ | refine LeO.ite ?_ ?_ | refine LeO.bind ?_ (fun _ => ?_))
  | exact LeO.none _
  | refine LeO.ite ?_ ?_
  | refine LeO.bind ?_ (fun _ => ?_)
theorem impl_Matrix_turned.calls (k : Nat) (a0_0 : Int) (A0_1 : Option Addr) (c0_1 : Nat) (l0_1 : List Int) (r1 : Int) (r2 : List Int) (w : World) (hr0_1 : Kd.C (Kd.int .i64) w A0_1 l0_1.length l0_1) (hc0_1 : l0_1.length ≤ c0_1) (h : impl_Matrix_turned.f k a0_0 l0_1 = some (r1, r2)) :
 Calls Try.prog 52 #[.agg #[.int .i64 a0_0, .slice A0_1 l0_1.length c0_1]] w fun e w' => ∃ v1_ : Value, e = .returned (.agg #[.int .i64 r1, v1_]) ∧ Kd.R (Kd.int .i64) 2 w' w.heap.size (fun _ => True) v1_ r2 ∧ Below w.heap.size w w' := by
 have hu27 := Try.underlying27
 have HR0_1 := Aq.mk hr0_1
 have HC0_1 := Aq.mk hc0_1
 clear hr0_1 hc0_1
 have HB := Aq.mk (Below.refl w.heap.size w)
 have H : ((impl_size_int64.f l0_1).bind fun t281 => (impl_Matrix_turned.l0 k a0_0 0 a0_0 l0_1 t281 ([] : List Int))) = some (r1, r2) := h
 clear h
 obtain ⟨t281, A2, H⟩ := qBd H
 replace H' := Aq.mk H
 clear H
 go_enter Try.func52, Try.ntmps52
 go_wp2_with (first | ((with_reducible refine gQd (N := 1) rfl ?_); refine xQe ?hg (N := 1) ?hd (cs := #[.int .i64 a0_0, .slice A0_1 l0_1.length c0_1]) (t := 27) ?hr ?_; (case hd => rfl); (case hg => rfl); (case hr => exact tH); intro gb279 hg w3 hbox hb; refine qM4 (bQT tB hb) hbox (tZ w hg) (tZ w hg) ?_; clear HB; intro HB BK279 GW279 GE279; clear hb hbox hg) | ((with_reducible refine gQd (N := 2) rfl ?_); refine xQe ?hg (N := 2) ?hd (cs := #[.int .i64 0, .slice none 0 0]) (t := 27) ?hr ?_; (case hd => rfl); (case hg => rfl); (case hr => exact tH); intro gb280 hg w4 hbox hb; refine qM7 (tQ BK279.out hb) (bQT tB hb) hbox (tZ w hg) (tZ w hg) ((by rw [hg]; exact Nat.ne_of_lt (blk_lt (g := gb279) (o := .cells #[.int .i64 a0_0, .slice A0_1 l0_1.length c0_1] 27 (0, 0)) (tG BK279.out)) : gb279 ≠ gb280)) ((by rw [hg]; exact Nat.ne_of_gt (blk_lt (g := gb279) (o := .cells #[.int .i64 a0_0, .slice A0_1 l0_1.length c0_1] 27 (0, 0)) (tG BK279.out)) : gb280 ≠ gb279)) ?_; clear BK279 HB; intro BK279 HB BK280 GW280 GE280 NB279_280 NB280_279; clear hb hbox hg; have hnb5 := NB279_280.out; have hnc5 := NB280_279.out; have hcz6_0 : w4.cell? ⟨gb279, 0, none⟩ = some (.int .i64 a0_0) := (kQC BK279.out 0).trans rfl; have hcz6_1 : w4.cell? ⟨gb279, 1, none⟩ = some (.slice A0_1 l0_1.length c0_1) := (kQC BK279.out 1).trans rfl; have hfz6_0 := kQF BK279.out 0; have hfz6_1 := kQF BK279.out 1) | ((with_reducible refine gQc (f := 41) rfl ?_); refine goesL_ (some 10) rfl rfl Try.func41 (by kernel_rfl) rfl #[.slice A0_1 l0_1.length c0_1] rfl tL ?_; (with_reducible refine (impl_size_int64.calls _ _ l0_1 t281 _ ?s1 ?s2 A2.out).mono ?_); (case s1 => exact tC ((Kd.C_below HR0_1.out HB.out))); (case s2 => exact HC0_1.out); rintro e w' ⟨rfl, ⟨nd, rfl⟩⟩; refine ⟨_, rfl, ?_⟩; (try (rw [drewN_self w4]; generalize hq_ : World.drewN w4 _ = w4; have n0_ : Aq (w4.heap[gb279]? = some (.cells #[.int .i64 a0_0, .slice A0_1 l0_1.length c0_1] 27 (0, 0))) := ⟨by rw [← hq_]; exact (tG BK279.out)⟩; have n1_ : Aq (w4.heap[gb280]? = some (.cells #[.int .i64 0, .slice none 0 0] 27 (0, 0))) := ⟨by rw [← hq_]; exact (tG BK280.out)⟩; have n2_ : Aq (Below w.heap.size w w4) := ⟨by rw [← hq_]; exact tB⟩; clear BK279 BK280 HB hq_; have BK279 := n0_; have BK280 := n1_; have HB := n2_; clear n0_ n1_ n2_))) | ((with_reducible refine gQd (N := 3) rfl ?_); refine xQe ?hg (N := 3) ?hd (cs := #[.int .i64 0, .slice none 0 0]) (t := 27) ?hr ?_; (case hd => rfl); (case hg => rfl); (case hr => exact tH); intro gb282 hg w7 hbox hb; refine qM10 (tQ BK279.out hb) (tQ BK280.out hb) (bQT tB hb) hbox (tZ w hg) (tZ w hg) ((by rw [hg]; exact Nat.ne_of_lt (blk_lt (g := gb279) (o := .cells #[.int .i64 a0_0, .slice A0_1 l0_1.length c0_1] 27 (0, 0)) (tG BK279.out)) : gb279 ≠ gb282)) ((by rw [hg]; exact Nat.ne_of_gt (blk_lt (g := gb279) (o := .cells #[.int .i64 a0_0, .slice A0_1 l0_1.length c0_1] 27 (0, 0)) (tG BK279.out)) : gb282 ≠ gb279)) ((by rw [hg]; exact Nat.ne_of_lt (blk_lt (g := gb280) (o := .cells #[.int .i64 0, .slice none 0 0] 27 (0, 0)) (tG BK280.out)) : gb280 ≠ gb282)) ((by rw [hg]; exact Nat.ne_of_gt (blk_lt (g := gb280) (o := .cells #[.int .i64 0, .slice none 0 0] 27 (0, 0)) (tG BK280.out)) : gb282 ≠ gb280)) ?_; clear BK279 BK280 HB; intro BK279 BK280 HB BK282 GW282 GE282 NB279_282 NB282_279 NB280_282 NB282_280; clear hb hbox hg; have hnb8 := NB282_279.out; have hnc8 := NB279_282.out; have hnb9 := NB282_280.out; have hnc9 := NB280_282.out; have hcz10_0 : w7.cell? ⟨gb282, 0, none⟩ = some (.int .i64 0) := (kQC BK282.out 0).trans rfl; have hcz10_1 : w7.cell? ⟨gb282, 1, none⟩ = some (.slice none 0 0) := (kQC BK282.out 1).trans rfl; have hfz10_0 := kQF BK282.out 0; have hfz10_1 := kQF BK282.out 1; have hcz11_0 : w7.cell? ⟨gb279, 0, none⟩ = some (.int .i64 a0_0) := (kQC BK279.out 0).trans rfl; have hcz11_1 : w7.cell? ⟨gb279, 1, none⟩ = some (.slice A0_1 l0_1.length c0_1) := (kQC BK279.out 1).trans rfl; have hfz11_0 := kQF BK279.out 0; have hfz11_1 := kQF BK279.out 1))
 go_loopg [14] k (fun kq v14 w' => ∃ (x14_1 : Int) (x283001_1 : List Int) (u283001 : Value), v14 = .int .i64 x14_1 ∧ Aq (impl_Matrix_turned.l0 kq a0_0 x14_1 a0_0 l0_1 t281 x283001_1 = some (r1, r2)) ∧ Aq (kq ≤ k) ∧ Aq (Kd.R (Kd.int .i64) 2 w' w.heap.size (fun _ => True) u283001 x283001_1) ∧ Aq (w'.heap[gb279]? = some (.cells #[.int .i64 a0_0, (.slice A0_1 l0_1.length c0_1)] 27 (0, 0))) ∧ Aq (w'.heap[gb280]? = some (.cells #[.int .i64 0, (.slice none 0 0)] 27 (0, 0))) ∧ Aq (w'.heap[gb282]? = some (.cells #[.int .i64 t281, u283001] 27 (0, 0))) ∧ Aq (Below w.heap.size w w'))
 case atStart => exact ⟨(0), (([] : List Int)), (.slice none 0 0), tS, H', ⟨Nat.le_refl _⟩, ⟨by first | exact Kd.R_nil _ _ _ _ _ | exact Kd.N_nil _ _ _ _ _ | exact Kd.V_nil _ _ _ _ _ | exact Kd.Q_nil _ _ _ _ _ | exact Kd.S_nil _ _ _ _ _⟩, ⟨by (with_reducible repeat (first | refine kQN ?_ _ | refine kQD ?_ | refine kQA ?_ _)); refine kQR ?_ NB279_282.out _; (with_reducible repeat (first | refine kQN ?_ _ | refine kQD ?_ | refine kQA ?_ _)); refine kQR ?_ NB279_282.out _; (with_reducible repeat (first | refine kQN ?_ _ | refine kQD ?_ | refine kQA ?_ _)); exact BK279.out⟩, ⟨by (with_reducible repeat (first | refine kQN ?_ _ | refine kQD ?_ | refine kQA ?_ _)); refine kQR ?_ NB280_282.out _; (with_reducible repeat (first | refine kQN ?_ _ | refine kQD ?_ | refine kQA ?_ _)); refine kQR ?_ NB280_282.out _; (with_reducible repeat (first | refine kQN ?_ _ | refine kQD ?_ | refine kQA ?_ _)); exact BK280.out⟩, ⟨by (with_reducible repeat (first | refine kQN ?_ _ | refine kQD ?_ | refine kQA ?_ _)); refine kQP (cs := #[.int .i64 t281, .slice none 0 0]) ?_ 1 _ rfl; (with_reducible repeat (first | refine kQN ?_ _ | refine kQD ?_ | refine kQA ?_ _)); refine kQP (cs := #[.int .i64 0, .slice none 0 0]) ?_ 0 _ rfl; (with_reducible repeat (first | refine kQN ?_ _ | refine kQD ?_ | refine kQA ?_ _)); exact BK282.out⟩, ⟨tB⟩⟩
 clear H'
 try clear hcz10_0
 try clear hcz10_1
 try clear hcz11_0
 try clear hcz11_1
 try clear hcz6_0
 try clear hcz6_1
 try clear hfz10_0
 try clear hfz10_1
 try clear hfz11_0
 try clear hfz11_1
 try clear hfz6_0
 try clear hfz6_1
 obtain ⟨x14_1, x283001_1, u283001, rfl, HA, HK1, HO_283001, BK279, BK280, BK282, HB⟩ := hrel
 cases gk with
 | zero => exact absurd HA.out (by simp [impl_Matrix_turned.l0])
 | succ k1 =>
  have H := HA.out
  clear HA
  simp only [impl_Matrix_turned.l0] at H
  by_cases c12 : x14_1 < a0_0
  rotate_left
  ·rw [if_neg c12] at H
   have c12b0 := decide_eq_false c12
   clear c12
   simp only [Option.some.injEq, Prod.mk.injEq] at H
   obtain ⟨rfl, rfl⟩ := H
   have hnb30 := NB282_279.out
   have hnc30 := NB279_282.out
   have hnb31 := NB282_280.out
   have hnc31 := NB280_282.out
   have hcz32_0 : wr.cell? ⟨gb282, 0, none⟩ = some (.int .i64 t281) := (kQC BK282.out 0).trans rfl
   have hcz32_1 : wr.cell? ⟨gb282, 1, none⟩ = some (u283001) := (kQC BK282.out 1).trans rfl
   have hfz32_0 := kQF BK282.out 0
   have hfz32_1 := kQF BK282.out 1
   have hnb33 := NB280_279.out
   have hnc33 := NB279_280.out
   have hcz34_0 : wr.cell? ⟨gb280, 0, none⟩ = some (.int .i64 0) := (kQC BK280.out 0).trans rfl
   have hcz34_1 : wr.cell? ⟨gb280, 1, none⟩ = some (.slice none 0 0) := (kQC BK280.out 1).trans rfl
   have hfz34_0 := kQF BK280.out 0
   have hfz34_1 := kQF BK280.out 1
   obtain ⟨Ao35, co35, eo35⟩ := Kd.R_slice HO_283001.out
   subst eo35
   go_wp2
   refine bodyPost_ret (results_cell_row rfl _ _ gb280 27 #[.int .i64 t281, .slice Ao35 x283001_1.length co35] (0, 0) _ rfl (by (with_reducible repeat (first | refine kQN ?_ _ | refine kQD ?_ | refine kQA ?_ _)); refine kQP (cs := #[.int .i64 t281, .slice none 0 0]) ?_ 1 _ rfl; (with_reducible repeat (first | refine kQN ?_ _ | refine kQD ?_ | refine kQA ?_ _)); refine kQP (cs := #[.int .i64 0, .slice none 0 0]) ?_ 0 _ rfl; (with_reducible repeat (first | refine kQN ?_ _ | refine kQD ?_ | refine kQA ?_ _)); exact BK280.out) Try.underlying27 rfl (by kernel_rfl)) rfl ?_
   exact ⟨_, tE, by (with_reducible repeat (first | apply Kd.RqA | apply Kd.RqN | apply Kd.RqD)); exact Kd.R_mono (Kd.R_far (p := ⟨gb280, 1, none⟩) (Kd.R_far (p := ⟨gb280, 0, none⟩) (Kd.R_types HO_283001.out BK280.out (by decide)) (fun _ hk => hk.2) (.int .i64 t281)) (fun _ hk => hk.2) (.slice Ao35 x283001_1.length co35)) (fun _ hk => trivial), tB⟩
  rw [if_pos c12] at H
  have c12b0 := decide_eq_true c12
  clear c12
  replace H' := Aq.mk H
  clear H
  have hnb13 := NB279_280.out
  have hnc13 := NB280_279.out
  have hnb14 := NB279_282.out
  have hnc14 := NB282_279.out
  have hcz15_0 : wr.cell? ⟨gb279, 0, none⟩ = some (.int .i64 a0_0) := (kQC BK279.out 0).trans rfl
  have hcz15_1 : wr.cell? ⟨gb279, 1, none⟩ = some (.slice A0_1 l0_1.length c0_1) := (kQC BK279.out 1).trans rfl
  have hfz15_0 := kQF BK279.out 0
  have hfz15_1 := kQF BK279.out 1
  go_wp2
  go_loopg [5, 20] k1 (fun kq v5 v20 w' => ∃ (x5_2 : Int) (x20_2 : Int), v5 = .int .i64 x5_2 ∧ v20 = .int .i64 x20_2 ∧ Aq (impl_Matrix_turned.l1 kq x14_1 x5_2 a0_0 x14_1 l0_1 (l0_1.length : Int) x20_2 a0_0 l0_1 t281 x283001_1 = some (r1, r2)) ∧ Aq (kq ≤ k1) ∧ Aq (Kd.R (Kd.int .i64) 2 w' w.heap.size (fun _ => True) u283001 x283001_1) ∧ Aq (w'.heap[gb279]? = some (.cells #[.int .i64 a0_0, (.slice A0_1 l0_1.length c0_1)] 27 (0, 0))) ∧ Aq (w'.heap[gb280]? = some (.cells #[.int .i64 0, (.slice none 0 0)] 27 (0, 0))) ∧ Aq (w'.heap[gb282]? = some (.cells #[.int .i64 t281, u283001] 27 (0, 0))) ∧ Aq (Below w.heap.size w w'))
  case atStart => exact ⟨(0), (0), tS, tS, H', ⟨Nat.le_refl _⟩, ⟨tR HO_283001.out⟩, ⟨tG BK279.out⟩, ⟨tG BK280.out⟩, ⟨tG BK282.out⟩, ⟨tB⟩⟩
  clear H'
  try clear c12
  try clear c12b0
  try clear hcz10_0
  try clear hcz10_1
  try clear hcz11_0
  try clear hcz11_1
  try clear hcz15_0
  try clear hcz15_1
  try clear hcz6_0
  try clear hcz6_1
  try clear hfz10_0
  try clear hfz10_1
  try clear hfz11_0
  try clear hfz11_1
  try clear hfz15_0
  try clear hfz15_1
  try clear hfz6_0
  try clear hfz6_1
  obtain ⟨x5_2, x20_2, rfl, rfl, HA, HK2, HO_283001, BK279, BK280, BK282, HB⟩ := hrel
  cases gk with
  | zero => exact absurd HA.out (by simp [impl_Matrix_turned.l1])
  | succ k2 =>
   have H := HA.out
   clear HA
   simp only [impl_Matrix_turned.l1] at H
   by_cases c16 : x20_2 < (l0_1.length : Int)
   rotate_left
   ·rw [if_neg c16] at H
    have c16b0 := decide_eq_false c16
    clear c16
    by_cases c23 : x283001_1.length < 17592186044416
    rotate_left
    ·rw [if_neg c23] at H
     exact absurd H (by simp)
    rw [if_pos c23] at H
    have LMc23 := Aq.mk c23
    clear c23
    obtain ⟨y284, hy284⟩ : ∃ y_ : List Int, y_ = (x283001_1 ++ [x5_2]) := ⟨_, rfl⟩
    replace H : (impl_Matrix_turned.l0 k2 a0_0 (wrap64 (x14_1 + 1)) a0_0 l0_1 t281 y284) = some (r1, r2) := by first | (rw [hy284]; with_reducible exact H) | (have H2_ := (Option.bind_some _ _).symm.trans H; rw [hy284]; with_reducible exact H2_) | (have H2_ := (Option.bind_some _ _).symm.trans H; with_reducible exact H2_) | with_reducible exact H | (rw [hy284]; exact H) | exact H
    have Ny284 := Aq.mk hy284
    clear hy284
    replace H' := Aq.mk H
    clear H
    have hnb24 := NB282_279.out
    have hnc24 := NB279_282.out
    have hnb25 := NB282_280.out
    have hnc25 := NB280_282.out
    have hcz26_0 : wr.cell? ⟨gb282, 0, none⟩ = some (.int .i64 t281) := (kQC BK282.out 0).trans rfl
    have hcz26_1 : wr.cell? ⟨gb282, 1, none⟩ = some (u283001) := (kQC BK282.out 1).trans rfl
    have hfz26_0 := kQF BK282.out 0
    have hfz26_1 := kQF BK282.out 1
    go_wp2_with (first | ((with_reducible refine gate_builtin (b := .append) (xs := #[.tmp 35, .tmp 37]) rfl ?_); at_builtin; refine Kd.R_append (Kd.int .i64) (w0 := w) w.heap.size rfl (.tmp 35) (.tmp 37) 25 2 (.int .i64 0) 8 rfl Try.underlying25 info2 rfl (by decide) (by omega) u283001 x283001_1 x5_2 [.int .i64 x5_2] (fun _ => True) (fun _ => False) rfl rfl ?aP (fun _ hk => hk.elim) ?aF ?aO ?aB ?aS ?aL ?_; (case aP => exact rfl); (case aB => exact tB); (case aF => exact (fun _ _ => trivial)); (case aO => exact (tR HO_283001.out)); (case aS => exact (bQZ tB)); (case aL => have := LMc23.out; omega); intro v285 w27 ho hb hg hat; rw [← Ny284.out] at ho; refine qM5 (blk_grown (g := gb279) (o := .cells #[.int .i64 a0_0, .slice A0_1 l0_1.length c0_1] 27 (0, 0)) (tG BK279.out) hg (Kd.R_ne HO_283001.out BK279.out (by decide))) (blk_grown (g := gb280) (o := .cells #[.int .i64 0, .slice none 0 0] 27 (0, 0)) (tG BK280.out) hg (Kd.R_ne HO_283001.out BK280.out (by decide))) (blk_grown (g := gb282) (o := .cells #[.int .i64 t281, u283001] 27 (0, 0)) (tG BK282.out) hg (Kd.R_ne HO_283001.out BK282.out (by decide))) hb ho ?_; clear BK279 BK280 BK282 HB HO_283001; intro BK279 BK280 BK282 HB HO286; clear ho hb hg hat; obtain ⟨Ao28, co28, eo28⟩ := Kd.R_slice HO286.out; subst eo28; have hcz29_0 : w27.cell? ⟨gb282, 0, none⟩ = some (.int .i64 t281) := (kQC BK282.out 0).trans rfl; have hcz29_1 : w27.cell? ⟨gb282, 1, none⟩ = some (u283001) := (kQC BK282.out 1).trans rfl; have hfz29_0 := kQF BK282.out 0; have hfz29_1 := kQF BK282.out 1))
    go_roundg k2
    case measure => have := HK1.out; have := HK2.out; omega
    case rel => exact ⟨(wrap64 (x14_1 + 1)), (y284), (.slice Ao28 y284.length co28), tS, H', ⟨by have := HK1.out; have := HK2.out; omega⟩, ⟨by (with_reducible repeat (first | apply Kd.RqA | apply Kd.RqN | apply Kd.RqD)); exact Kd.R_mono (Kd.R_far (p := ⟨gb282, 1, none⟩) (Kd.R_types HO286.out BK282.out (by decide)) (fun _ hk => hk.2) (.slice Ao28 y284.length co28)) (fun _ hk => trivial)⟩, ⟨by (with_reducible repeat (first | refine kQN ?_ _ | refine kQD ?_ | refine kQA ?_ _)); refine kQR ?_ NB279_282.out _; (with_reducible repeat (first | refine kQN ?_ _ | refine kQD ?_ | refine kQA ?_ _)); exact BK279.out⟩, ⟨by (with_reducible repeat (first | refine kQN ?_ _ | refine kQD ?_ | refine kQA ?_ _)); refine kQR ?_ NB280_282.out _; (with_reducible repeat (first | refine kQN ?_ _ | refine kQD ?_ | refine kQA ?_ _)); exact BK280.out⟩, ⟨by (with_reducible repeat (first | refine kQN ?_ _ | refine kQD ?_ | refine kQA ?_ _)); refine kQP (cs := #[.int .i64 t281, u283001]) ?_ 1 _ rfl; (with_reducible repeat (first | refine kQN ?_ _ | refine kQD ?_ | refine kQA ?_ _)); exact BK282.out⟩, ⟨tB⟩⟩
   rw [if_pos c16] at H
   have c16b0 := decide_eq_true c16
   clear c16
   by_cases c17 : 0 ≤ x20_2
   rotate_left
   ·rw [if_neg c17] at H
    exact absurd H (by simp)
   rw [if_pos c17] at H
   have c17b0 := decide_eq_true c17
   clear c17
   by_cases c18 : x20_2 < (l0_1.length : Int)
   rotate_left
   ·rw [if_neg c18] at H
    exact absurd H (by simp)
   rw [if_pos c18] at H
   have c18b0 := decide_eq_true c18
   clear c18
   by_cases c19 : 0 ≤ x14_1
   rotate_left
   ·rw [if_neg c19] at H
    exact absurd H (by simp)
   rw [if_pos c19] at H
   have c19b0 := eq_true c19
   have c19b1 := decide_eq_true c19
   clear c19
   obtain ⟨ji20, hji20⟩ : ∃ j_ : Int, (shr .i64 (rd l0_1 x20_2) x14_1) = j_ := ⟨_, rfl⟩
   first | rw [hji20] at H | simp only [hji20] at H | skip
   have hji20_ : ((rd l0_1 x20_2) / 2 ^ min x14_1.toNat 64) = ji20 := hji20
   have hji20z : x14_1 ≤ 64 → ((rd l0_1 x20_2) / 2 ^ x14_1.toNat) = ji20 := shr_small hji20
   have c21b0 := eq_true (of_decide_eq_true tA : 0 ≤ x20_2)
   obtain ⟨ji22, hji22⟩ : ∃ j_ : Int, (shl .i64 (Go.bits .and .i64 (ji20) 1) x20_2) = j_ := ⟨_, rfl⟩
   first | rw [hji22] at H | simp only [hji22] at H | skip
   have hji22_ : (IntKind.i64.wrap ((Go.bits .and .i64 (ji20) 1) * 2 ^ min x20_2.toNat 64)) = ji22 := hji22
   have hji22z : x20_2 ≤ 64 → (IntKind.i64.wrap ((Go.bits .and .i64 (ji20) 1) * 2 ^ x20_2.toNat)) = ji22 := shl_small hji22
   have hji22y : (wrap64 ((Go.bits .and .i64 (ji20) 1) * 2 ^ min x20_2.toNat 64)) = ji22 := (i64_w _).symm.trans hji22_
   have hji22x : x20_2 ≤ 64 → (wrap64 ((Go.bits .and .i64 (ji20) 1) * 2 ^ x20_2.toNat)) = ji22 := fun h_ => (i64_w _).symm.trans (hji22z h_)
   replace H' := Aq.mk H
   clear H
   have p283 : 0 ≤ (x20_2 : Int) := of_decide_eq_true tA
   have q283 : x20_2 < (l0_1.length : Int) := of_decide_eq_true tA
   obtain ⟨ad283, e283, hx283_0⟩ := Kd.at_int HR0_1.out x20_2 p283 q283
   cases e283
   replace hx283_0 := (HB.out.cell (World.block_lt_of_cell? w _ hx283_0)).trans hx283_0
   replace p283 := eq_true p283
   replace q283 := eq_true q283
   go_wp2
   go_roundg k2
   case measure => have := HK1.out; have := HK2.out; omega
   case rel => exact ⟨(Go.bits .or .i64 x5_2 (ji22)), (wrap64 (x20_2 + 1)), (by first | rfl | (simp; done) | (simp only [← hji22] <;> (first | rfl | simp)) | (simp [*]; done)), tS, H', ⟨by have := HK1.out; have := HK2.out; omega⟩, ⟨tR HO_283001.out⟩, ⟨tG BK279.out⟩, ⟨tG BK280.out⟩, ⟨tG BK282.out⟩, ⟨tB⟩⟩
def impl_TurnMatrix_1.f (a0_0 : Int) (l0_1 : List Int) : Option (Bool) := some (decide ((l0_1.length : Int) > 0))
theorem impl_TurnMatrix_1.calls (g0_0 : Addr) (a0_0 : Int) (A0_1 : Option Addr) (c0_1 : Nat) (l0_1 : List Int) (r : Bool) (w : World) (hr0_1 : Kd.C (Kd.int .i64) w A0_1 l0_1.length l0_1) (hc0_1 : l0_1.length ≤ c0_1) (hb0_0 : AtC w g0_0 [.int .i64 a0_0, .slice A0_1 l0_1.length c0_1]) (h : impl_TurnMatrix_1.f a0_0 l0_1 = some r) :
 Calls Try.prog 51 #[.pointer (some g0_0)] w fun e w' => e = .returned (.bool r) ∧ Dq w w' := by
 have HR0_1 := Aq.mk hr0_1
 have HC0_1 := Aq.mk hc0_1
 clear hr0_1 hc0_1
 have BK40 := Aq.mk hb0_0
 clear hb0_0
 have H : (some (decide ((l0_1.length : Int) > 0))) = some r := h
 clear h
 obtain rfl := Option.some.inj H
 have hcz2_0 : w.cell? g0_0 = some (.int .i64 a0_0) := AtC.cell0 BK40.out _ rfl
 have hcz2_1 : w.cell? ⟨g0_0.block, g0_0.off + 1, none⟩ = some (.slice A0_1 l0_1.length c0_1) := AtC.cell BK40.out 1 _ (by decide) rfl
 go_enter Try.func51, Try.ntmps51
 go_wp2
 go_ret
 exact ⟨tS, tD⟩
def impl_matricesCode_AT_impl_TurnMatrix_1.f (k : Nat) (a0_0 : Int) (l0_1 : List Int) (l1 : List (S27)) : Option (Int) := (impl_Matrix_AT_impl_matricesCode_1_89.f k l1).bind fun t287 => (if t287 = true then (some 1) else ((impl_TurnMatrix_1.f a0_0 l0_1).bind fun t288 => (if t288 = true then (some 0) else (some 2))))
theorem impl_matricesCode_AT_impl_TurnMatrix_1.mono : ∀ a0 a1 a2 k, LeO (impl_matricesCode_AT_impl_TurnMatrix_1.f k a0 a1 a2) (impl_matricesCode_AT_impl_TurnMatrix_1.f (k + 1) a0 a1 a2) := by
 intro a0 a1 a2 k
 unfold impl_matricesCode_AT_impl_TurnMatrix_1.f
 repeat' first
  | (with_reducible first | apply impl_Matrix_AT_impl_matricesCode_1_89.mono | exact LeO.refl _ | exact LeO.none _ | refine LeO.ite ?_ ?_ | refine LeO.bind ?_ (fun _ => ?_))
  | exact LeO.none _
  | refine LeO.ite ?_ ?_
  | refine LeO.bind ?_ (fun _ => ?_)
theorem impl_matricesCode_AT_impl_TurnMatrix_1.calls (k : Nat) (g0_0 : Addr) (a0_0 : Int) (A0_1 : Option Addr) (c0_1 : Nat) (l0_1 : List Int) (A1 : Option Addr) (c1 : Nat) (l1 : List (S27)) (r : Int) (w : World) (hr0_1 : Kd.C (Kd.int .i64) w A0_1 l0_1.length l0_1) (hc0_1 : l0_1.length ≤ c0_1) (hr1 : Kd.C k27 w A1 l1.length l1) (hc1 : l1.length ≤ c1) (hb0_0 : AtC w g0_0 [.int .i64 a0_0, .slice A0_1 l0_1.length c0_1]) (h : impl_matricesCode_AT_impl_TurnMatrix_1.f k a0_0 l0_1 l1 = some r) :
 Calls Try.prog 47 #[.func (.func 51) #[] #[.pointer (some g0_0)], .slice A1 l1.length c1] w fun e w' => e = .returned (.int .i64 r) ∧ Below w.heap.size w w' := by
 have eg51 : ∀ (args_ : Array Value) (w_ : World), (callFunc 51 args_).run Try.prog w_ = .ok (.enter 51 args_) w_ := enters_of Try.func51 (by kernel_rfl) rfl
 have HR0_1 := Aq.mk hr0_1
 have HC0_1 := Aq.mk hc0_1
 clear hr0_1 hc0_1
 have HR1 := Aq.mk hr1
 have HC1 := Aq.mk hc1
 clear hr1 hc1
 have BK40 := Aq.mk hb0_0
 clear hb0_0
 have HB := Aq.mk (Below.refl w.heap.size w)
 have H : ((impl_Matrix_AT_impl_matricesCode_1_89.f k l1).bind fun t287 => (if t287 = true then (some 1) else ((impl_TurnMatrix_1.f a0_0 l0_1).bind fun t288 => (if t288 = true then (some 0) else (some 2))))) = some r := h
 clear h
 obtain ⟨t287, A3, H⟩ := qBd H
 by_cases c4 : t287 = true
 ·subst c4
  rw [if_pos rfl] at H
  obtain rfl := Option.some.inj H
  go_enter Try.func47, Try.ntmps47
  go_wp2_with (first | ((with_reducible refine gQc (f := 89) rfl ?_); refine goesL_ (some 7) rfl rfl Try.func89 (by kernel_rfl) rfl #[.slice A1 l1.length c1, .func (.func 90) #[] #[]] rfl tL ?_; (with_reducible refine (impl_Matrix_AT_impl_matricesCode_1_89.calls k _ _ l1  true _ ?s1 ?s2 A3.out).mono ?_); (case s1 => exact tC HR1.out); (case s2 => exact HC1.out); rintro e w5 ⟨rfl, hb⟩; refine ⟨_, rfl, ?_⟩; refine qM1 (bQT tB hb) ?_; clear HB; intro HB; (try clear hb); (try clear hb2); (try clear hk); (try clear hi)))
  go_ret
  exact ⟨tE, tB⟩
 replace c4 := Bool.eq_false_iff.mpr c4
 subst c4
 rw [if_neg (show ¬ (false = true) by decide)] at H
 obtain ⟨t288, A6, H⟩ := qBd H
 by_cases c7 : t288 = true
 ·subst c7
  rw [if_pos rfl] at H
  obtain rfl := Option.some.inj H
  go_enter Try.func47, Try.ntmps47
  go_wp2_with (first | ((with_reducible refine gQc (f := 89) rfl ?_); refine goesL_ (some 7) rfl rfl Try.func89 (by kernel_rfl) rfl #[.slice A1 l1.length c1, .func (.func 90) #[] #[]] rfl tL ?_; (with_reducible refine (impl_Matrix_AT_impl_matricesCode_1_89.calls k _ _ l1  false _ ?s1 ?s2 A3.out).mono ?_); (case s1 => exact tC HR1.out); (case s2 => exact HC1.out); rintro e w8 ⟨rfl, hb⟩; refine ⟨_, rfl, ?_⟩; refine qM1 (bQT tB hb) ?_; clear HB; intro HB; (try clear hb); (try clear hb2); (try clear hk); (try clear hi)) | (go_at_fn 51; (with_reducible refine (impl_TurnMatrix_1.calls (g0_0 : Addr) a0_0 A0_1 c0_1 l0_1 true _ ?s1 ?s2 ?s3 A6.out).mono ?_); (case s1 => exact tC ((Kd.C_below HR0_1.out HB.out))); (case s2 => exact HC0_1.out); (case s3 => repeat (first | exact (AtC.below BK40.out HB.out) | (with_reducible refine AtC.alloc ?_ _) | (with_reducible refine AtC.drewN ?_ _) | (with_reducible refine AtC.drew ?_))); rintro e w' ⟨rfl, ⟨nd, rfl⟩⟩))
  go_ret
  exact ⟨tE, tB⟩
 replace c7 := Bool.eq_false_iff.mpr c7
 subst c7
 rw [if_neg (show ¬ (false = true) by decide)] at H
 obtain rfl := Option.some.inj H
 go_enter Try.func47, Try.ntmps47
 go_wp2_with (first | ((with_reducible refine gQc (f := 89) rfl ?_); refine goesL_ (some 7) rfl rfl Try.func89 (by kernel_rfl) rfl #[.slice A1 l1.length c1, .func (.func 90) #[] #[]] rfl tL ?_; (with_reducible refine (impl_Matrix_AT_impl_matricesCode_1_89.calls k _ _ l1  false _ ?s1 ?s2 A3.out).mono ?_); (case s1 => exact tC HR1.out); (case s2 => exact HC1.out); rintro e w9 ⟨rfl, hb⟩; refine ⟨_, rfl, ?_⟩; refine qM1 (bQT tB hb) ?_; clear HB; intro HB; (try clear hb); (try clear hb2); (try clear hk); (try clear hi)) | (go_at_fn 51; (with_reducible refine (impl_TurnMatrix_1.calls (g0_0 : Addr) a0_0 A0_1 c0_1 l0_1 false _ ?s1 ?s2 ?s3 A6.out).mono ?_); (case s1 => exact tC ((Kd.C_below HR0_1.out HB.out))); (case s2 => exact HC0_1.out); (case s3 => repeat (first | exact (AtC.below BK40.out HB.out) | (with_reducible refine AtC.alloc ?_ _) | (with_reducible refine AtC.drewN ?_ _) | (with_reducible refine AtC.drew ?_))); rintro e w' ⟨rfl, ⟨nd, rfl⟩⟩))
 go_ret
 exact ⟨tE, tB⟩
end Go.Proofs.Ythjfilmdobkmlaa.P
