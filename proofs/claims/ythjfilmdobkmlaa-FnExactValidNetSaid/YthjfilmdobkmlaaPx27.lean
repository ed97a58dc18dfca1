/- Functions of the program and what they tell, as the printing program wrote it. -/
import Derived.Test.YthjfilmdobkmlaaPx0
import Derived.Test.YthjfilmdobkmlaaPx1
import Derived.Test.YthjfilmdobkmlaaPx26
namespace Go.Proofs.Ythjfilmdobkmlaa.P
open Go.Shelf Go.RowKit Go.Proofs.YthjfilmdobkmlaaW.PrintWords Go.Proofs.YthjfilmdobkmlaaW.PrintLast Go.Proofs.YthjfilmdobkmlaaW.PrintMore
attribute [local go_sem] max2_int min2_int max_two min_two max_three min_three max_four min_four
set_option linter.unusedVariables false
set_option linter.unusedSimpArgs false
set_option maxHeartbeats 8000000
set_option maxRecDepth 100000
def spec_l04Elements.l0 : Nat → List Int → Int → Int → Int → Option (Bool)
  | 0, _, _, _, _ => none
  | k + 1, x1, x5, x632000, x632001 => if x5 < (x1.length : Int) then (if 0 ≤ x5 then ((spec_l01Size.f x632000 x632001).bind fun t633 => ((spec_l00In.f (rd x1 x5) 0 (wrap64 (t633 - 1))).bind fun t634 => (if t634 = true then (spec_l04Elements.l0 k x1 (wrap64 (x5 + 1)) x632000 x632001) else (some false)))) else (none)) else (some true)
def spec_l04Elements.f (k : Nat) (a0_0 : Int) (a0_1 : Int) (l1 : List Int) : Option (Bool) := spec_l04Elements.l0 k l1 0 a0_0 a0_1
theorem spec_l04Elements.mono_l : ∀ k, (∀ y0 y1 y2 y3, LeO (spec_l04Elements.l0 k y0 y1 y2 y3) (spec_l04Elements.l0 (k + 1) y0 y1 y2 y3))
 | 0 => fun _ _ _ _ r h => by simp [spec_l04Elements.l0] at h
 | k + 1 => by
  have ih0 := spec_l04Elements.mono_l k
  ·intro y0 y1 y2 y3
   unfold spec_l04Elements.l0
   repeat' first
   | (with_reducible first | apply ih0 | exact LeO.refl _ | exact LeO.none _ | refine LeO.ite ?_ ?_ | refine LeO.bind ?_ (fun _ => ?_))
   | exact LeO.none _
   | refine LeO.ite ?_ ?_
   | refine LeO.bind ?_ (fun _ => ?_)
theorem spec_l04Elements.mono : ∀ a0 a1 a2 k, LeO (spec_l04Elements.f k a0 a1 a2) (spec_l04Elements.f (k + 1) a0 a1 a2) := by
 intro a0 a1 a2 k
 have ih0 := spec_l04Elements.mono_l k
 unfold spec_l04Elements.f
 repeat' first
  | (with_reducible first | apply ih0 | exact LeO.refl _ | exact LeO.none _ | refine LeO.ite ?_ ?_ | refine LeO.bind ?_ (fun _ => ?_))
  | exact LeO.none _
  | refine LeO.ite ?_ ?_
  | refine LeO.bind ?_ (fun _ => ?_)
def spec_l04Elements.T4 : Bool × List (List Nat × List Nat) := (true, [([], []), ([], []), ([0, 1], [0, 1]), ([2], [2]), ([], []), ([4], [4]), ([5], [5]), ([3, 6, 5], [3, 6]), ([7], [7])])
def spec_l04Elements.B4 : List Nat := [0, 0, 3, 7, 0, 16, 48, 127, 255]
theorem spec_l04Elements.tab4 : rtab .any (opsOf Try.f98 4) = spec_l04Elements.T4 := by kernel_rfl
theorem spec_l04Elements.bits4 : waitsOk spec_l04Elements.T4.2 spec_l04Elements.B4 = true := by kernel_rfl
theorem spec_l04Elements.calls (k : Nat) (a0_0 : Int) (a0_1 : Int) (A1 : Option Addr) (c1 : Nat) (l1 : List Int) (r : Bool) (w : World) (hr1 : Kd.C (Kd.int .i64) w A1 l1.length l1) (hc1 : l1.length ≤ c1) (h : spec_l04Elements.f k a0_0 a0_1 l1 = some r) :
 Calls Try.prog 98 #[.agg #[.int .i64 a0_0, .int .i64 a0_1], .slice A1 l1.length c1] w fun e w' => e = .returned (.bool r) ∧ Below w.heap.size w w' := by
 have hu49 := Try.underlying49
 have HR1 := Aq.mk hr1
 have HC1 := Aq.mk hc1
 clear hr1 hc1
 have HB := Aq.mk (Below.refl w.heap.size w)
 have H : (spec_l04Elements.l0 k l1 0 a0_0 a0_1) = some r := h
 clear h
 replace H' := Aq.mk H
 clear H
 go_enter Try.func98, Try.ntmps98
 go_wp2_with (first | ((with_reducible refine gQd (N := 2) rfl ?_); refine xQe ?hg (N := 2) ?hd (cs := #[.int .i64 a0_0, .int .i64 a0_1]) (t := 49) ?hr ?_; (case hd => rfl); (case hg => rfl); (case hr => exact tH); intro gb631 hg w3 hbox hb; refine qM4 (bQT tB hb) hbox (tZ w hg) (tZ w hg) ?_; clear HB; intro HB BK631 GW631 GE631; clear hb hbox hg))
 go_loopg [5] k (fun kq v5 w' => ∃ (x5_1 : Int), v5 = .int .i64 x5_1 ∧ Aq (spec_l04Elements.l0 kq l1 x5_1 a0_0 a0_1 = some r) ∧ Aq (kq ≤ k) ∧ Aq (w'.heap[gb631]? = some (.cells #[.int .i64 a0_0, .int .i64 a0_1] 49 (0, 0))) ∧ Aq (Below w.heap.size w w'))
 case atStart => exact ⟨(0), tS, H', ⟨Nat.le_refl _⟩, ⟨tG BK631.out⟩, ⟨tB⟩⟩
 clear H'
 try clear c1
 obtain ⟨x5_1, rfl, HA, HK1, BK631, HB⟩ := hrel
 cases gk with
 | zero => exact absurd HA.out (by simp [spec_l04Elements.l0])
 | succ k1 =>
  have H := HA.out
  clear HA
  simp only [spec_l04Elements.l0] at H
  by_cases c4 : x5_1 < (l1.length : Int)
  rotate_left
  ·rw [if_neg c4] at H
   have c4b0 := decide_eq_false c4
   clear c4
   obtain rfl := Option.some.inj H
   go_wp2
   go_ret
   exact ⟨tE, tB⟩
  rw [if_pos c4] at H
  have c4b0 := decide_eq_true c4
  clear c4
  by_cases c5 : 0 ≤ x5_1
  rotate_left
  ·rw [if_neg c5] at H
   exact absurd H (by simp)
  rw [if_pos c5] at H
  have c5b0 := decide_eq_true c5
  clear c5
  obtain ⟨t633, A6, H⟩ := qBd H
  obtain ⟨t634, A7, H⟩ := qBd H
  by_cases c8 : t634 = true
  ·subst c8
   rw [if_pos rfl] at H
   replace H' := Aq.mk H
   clear H
   try go_wp2
   have n0_ := Aq.mk (kQD BK631.out)
   have n1_ := Aq.mk (bQ1 HB.out)
   clear BK631
   clear HB
   have BK631 := n0_
   have HB := n1_
   clear n0_ n1_
   have p632 : 0 ≤ (x5_1 : Int) := of_decide_eq_true tA
   have q632 : x5_1 < (l1.length : Int) := of_decide_eq_true tA
   obtain ⟨ad632, e632, hx632_0⟩ := Kd.at_int HR1.out x5_1 p632 q632
   have hw632_0 := hx632_0
   cases e632
   replace hx632_0 := (HB.out.cell (World.block_lt_of_cell? w _ hx632_0)).trans hx632_0
   replace p632 := eq_true p632
   replace q632 := eq_true q632
   refine start_ (n := 9) (S := fun w' => w'.cell? ⟨gb631, 0, none⟩ = some (.int .i64 a0_0) ∧ w'.cell? ⟨gb631, 1, none⟩ = some (.int .i64 a0_1) ∧ w'.cell? (ad632.add (x5_1).toNat) = some (.int .i64 (rd l1 x5_1))) (ds := []) #[false, false, false, false, false, false, false, false, false] (by kernel_rfl) rfl rfl ⟨(kQC BK631.out 0).trans rfl, (kQC BK631.out 1).trans rfl, (tcw tB hw632_0)⟩ (fun hHeld => ?_); refine with_tabW spec_l04Elements.tab4 spec_l04Elements.bits4 (fun HT_ HW_ => ?_)
   generalize wr.drew = w9 at BK631 HB hx632_0 hHeld ⊢
   refine tP0 0 12 (bm 9 1) ?_
   refine tP0 1 13 (bm 9 3) ?_
   refine tP0 2 14 (bm 9 7) ?_
   refine tT3 3 15 (bm 9 15) ?_
   refine tT3 4 16 (bm 9 31) ?_
   refine one_ (i := 5) (N := some 17) (bm 9 63) rfl rfl (one_of HT_.out (by kernel_rfl)) (by decide) (fun K hK => ?_)
   refine goes_ Try.func110 (by kernel_rfl) rfl #[.agg #[.int .i64 a0_0, .int .i64 a0_1]] (by rfl) rfl rfl tL ?_
   with_reducible refine (spec_l01Size.calls a0_0 a0_1 t633 _ A6.out).mono ?_
   rintro e w10 ⟨rfl, hb⟩
   refine ⟨_, rfl, ?_⟩
   have n0_ := Aq.mk (tQ BK631.out hb)
   have n1_ := Aq.mk (bQT tB hb)
   clear BK631
   clear HB
   have BK631 := n0_
   have HB := n1_
   clear n0_ n1_
   (try clear hb)
   (try clear hb2)
   (try clear hk)
   (try clear hi)
   refine hK.out _ _ ⟨(kQC BK631.out 0).trans rfl, (kQC BK631.out 1).trans rfl, (tcw tB hw632_0)⟩ (fun hHeld => ?_)
   clear hK K
   refine tN 17 ?_
   refine tP0 6 18 (bm 9 127) ?_
   refine one_ (i := 7) (N := some 19) (bm 9 255) rfl rfl (one_of HT_.out (by kernel_rfl)) (by decide) (fun K hK => ?_)
   refine goes_ Try.func95 (by kernel_rfl) rfl #[.int .i64 (rd l1 x5_1), .int .i64 0, .int .i64 (wrap64 (t633 - 1))] (by rfl) rfl rfl tL ?_
   with_reducible refine (spec_l00In.calls (rd l1 x5_1) 0 (wrap64 (t633 - 1)) true _ A7.out).mono ?_
   rintro e w' ⟨rfl, ⟨nd, rfl⟩⟩
   refine ⟨_, rfl, ?_⟩
   refine hK.out _ _ ⟨(kQC BK631.out 0).trans rfl, (kQC BK631.out 1).trans rfl, (tcw tB hw632_0)⟩ (fun hHeld => ?_)
   clear hK K
   refine tN 19 ?_
   refine tP0 8 20 (bm 9 511) ?_
   refine done_ (done_of HT_.out (by kernel_rfl)) ?_
   try go_wp2
   go_roundg k1
   case measure => have := HK1.out; omega
   case rel => exact ⟨(wrap64 (x5_1 + 1)), tS, H', ⟨by have := HK1.out; omega⟩, ⟨tG BK631.out⟩, ⟨tB⟩⟩
  replace c8 := Bool.eq_false_iff.mpr c8
  subst c8
  rw [if_neg (show ¬ (false = true) by decide)] at H
  obtain rfl := Option.some.inj H
  try go_wp2
  have n0_ := Aq.mk (kQD BK631.out)
  have n1_ := Aq.mk (bQ1 HB.out)
  clear BK631
  clear HB
  have BK631 := n0_
  have HB := n1_
  clear n0_ n1_
  have p632 : 0 ≤ (x5_1 : Int) := of_decide_eq_true tA
  have q632 : x5_1 < (l1.length : Int) := of_decide_eq_true tA
  obtain ⟨ad632, e632, hx632_0⟩ := Kd.at_int HR1.out x5_1 p632 q632
  have hw632_0 := hx632_0
  cases e632
  replace hx632_0 := (HB.out.cell (World.block_lt_of_cell? w _ hx632_0)).trans hx632_0
  replace p632 := eq_true p632
  replace q632 := eq_true q632
  refine start_ (n := 9) (S := fun w' => w'.cell? ⟨gb631, 0, none⟩ = some (.int .i64 a0_0) ∧ w'.cell? ⟨gb631, 1, none⟩ = some (.int .i64 a0_1) ∧ w'.cell? (ad632.add (x5_1).toNat) = some (.int .i64 (rd l1 x5_1))) (ds := []) #[false, false, false, false, false, false, false, false, false] (by kernel_rfl) rfl rfl ⟨(kQC BK631.out 0).trans rfl, (kQC BK631.out 1).trans rfl, (tcw tB hw632_0)⟩ (fun hHeld => ?_); refine with_tabW spec_l04Elements.tab4 spec_l04Elements.bits4 (fun HT_ HW_ => ?_)
  generalize wr.drew = w11 at BK631 HB hx632_0 hHeld ⊢
  refine tP0 0 12 (bm 9 1) ?_
  refine tP0 1 13 (bm 9 3) ?_
  refine tP0 2 14 (bm 9 7) ?_
  refine tT3 3 15 (bm 9 15) ?_
  refine tT3 4 16 (bm 9 31) ?_
  refine one_ (i := 5) (N := some 17) (bm 9 63) rfl rfl (one_of HT_.out (by kernel_rfl)) (by decide) (fun K hK => ?_)
  refine goes_ Try.func110 (by kernel_rfl) rfl #[.agg #[.int .i64 a0_0, .int .i64 a0_1]] (by rfl) rfl rfl tL ?_
  with_reducible refine (spec_l01Size.calls a0_0 a0_1 t633 _ A6.out).mono ?_
  rintro e w12 ⟨rfl, hb⟩
  refine ⟨_, rfl, ?_⟩
  have n0_ := Aq.mk (tQ BK631.out hb)
  have n1_ := Aq.mk (bQT tB hb)
  clear BK631
  clear HB
  have BK631 := n0_
  have HB := n1_
  clear n0_ n1_
  (try clear hb)
  (try clear hb2)
  (try clear hk)
  (try clear hi)
  refine hK.out _ _ ⟨(kQC BK631.out 0).trans rfl, (kQC BK631.out 1).trans rfl, (tcw tB hw632_0)⟩ (fun hHeld => ?_)
  clear hK K
  refine tN 17 ?_
  refine tP0 6 18 (bm 9 127) ?_
  refine one_ (i := 7) (N := some 19) (bm 9 255) rfl rfl (one_of HT_.out (by kernel_rfl)) (by decide) (fun K hK => ?_)
  refine goes_ Try.func95 (by kernel_rfl) rfl #[.int .i64 (rd l1 x5_1), .int .i64 0, .int .i64 (wrap64 (t633 - 1))] (by rfl) rfl rfl tL ?_
  with_reducible refine (spec_l00In.calls (rd l1 x5_1) 0 (wrap64 (t633 - 1)) false _ A7.out).mono ?_
  rintro e w' ⟨rfl, ⟨nd, rfl⟩⟩
  refine ⟨_, rfl, ?_⟩
  refine hK.out _ _ ⟨(kQC BK631.out 0).trans rfl, (kQC BK631.out 1).trans rfl, (tcw tB hw632_0)⟩ (fun hHeld => ?_)
  clear hK K
  refine tN 19 ?_
  refine tP0 8 20 (bm 9 511) ?_
  refine done_ (done_of HT_.out (by kernel_rfl)) ?_
  try go_wp2
  go_ret
  exact ⟨tE, tB⟩
end Go.Proofs.Ythjfilmdobkmlaa.P
