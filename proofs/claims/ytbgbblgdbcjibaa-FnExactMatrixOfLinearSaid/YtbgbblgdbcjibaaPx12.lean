/- Functions of the program and what they tell, as the printing program wrote it. -/
import Derived.Test.YtbgbblgdbcjibaaPx0
import Derived.Test.YtbgbblgdbcjibaaPx1
import Derived.Test.YtbgbblgdbcjibaaPx3
import Derived.Test.YtbgbblgdbcjibaaPx7
namespace Go.Proofs.Ytbgbblgdbcjibaa.P
open Go.Shelf Go.RowKit Go.Proofs.YtbgbblgdbcjibaaW.PrintWords Go.Proofs.YtbgbblgdbcjibaaW.PrintLast Go.Proofs.YtbgbblgdbcjibaaW.PrintMore
attribute [local go_sem] max2_int min2_int max_two min_two max_three min_three max_four min_four
set_option linter.unusedVariables false
set_option linter.unusedSimpArgs false
set_option maxHeartbeats 8000000
set_option maxRecDepth 100000
def spec_l03Elements.l0 : Nat → List Int → Int → Int → Int → Option (Bool)
  | 0, _, _, _, _ => none
  | k + 1, x1, x5, x415000, x415001 => if x5 < (x1.length : Int) then (if 0 ≤ x5 then ((spec_l01Size.f x415000 x415001).bind fun t416 => ((spec_l00In.f (rd x1 x5) 0 (wrap64 (t416 - 1))).bind fun t417 => (if t417 = true then (spec_l03Elements.l0 k x1 (wrap64 (x5 + 1)) x415000 x415001) else (some false)))) else (none)) else (some true)
def spec_l03Elements.f (k : Nat) (a0_0 : Int) (a0_1 : Int) (l1 : List Int) : Option (Bool) := spec_l03Elements.l0 k l1 0 a0_0 a0_1
theorem spec_l03Elements.mono_l : ∀ k, (∀ y0 y1 y2 y3, LeO (spec_l03Elements.l0 k y0 y1 y2 y3) (spec_l03Elements.l0 (k + 1) y0 y1 y2 y3))
 | 0 => fun _ _ _ _ r h => by simp [spec_l03Elements.l0] at h
 | k + 1 => by
  have ih0 := spec_l03Elements.mono_l k
  ·intro y0 y1 y2 y3
   unfold spec_l03Elements.l0
   repeat' first
   | (with_reducible first | apply ih0 | exact LeO.refl _ | exact LeO.none _ | refine LeO.ite ?_ ?_ | refine LeO.bind ?_ (fun _ => ?_))
   | exact LeO.none _
   | refine LeO.ite ?_ ?_
   | refine LeO.bind ?_ (fun _ => ?_)
theorem spec_l03Elements.mono : ∀ a0 a1 a2 k, LeO (spec_l03Elements.f k a0 a1 a2) (spec_l03Elements.f (k + 1) a0 a1 a2) := by
 intro a0 a1 a2 k
 have ih0 := spec_l03Elements.mono_l k
 unfold spec_l03Elements.f
 repeat' first
  | (with_reducible first | apply ih0 | exact LeO.refl _ | exact LeO.none _ | refine LeO.ite ?_ ?_ | refine LeO.bind ?_ (fun _ => ?_))
  | exact LeO.none _
  | refine LeO.ite ?_ ?_
  | refine LeO.bind ?_ (fun _ => ?_)
def spec_l03Elements.T4 : Bool × List (List Nat × List Nat) := (true, [([], []), ([], []), ([0, 1], [0, 1]), ([2], [2]), ([], []), ([4], [4]), ([5], [5]), ([3, 6, 5], [3, 6]), ([7], [7])])
def spec_l03Elements.B4 : List Nat := [0, 0, 3, 7, 0, 16, 48, 127, 255]
theorem spec_l03Elements.tab4 : rtab .any (opsOf Try.f81 4) = spec_l03Elements.T4 := by kernel_rfl
theorem spec_l03Elements.bits4 : waitsOk spec_l03Elements.T4.2 spec_l03Elements.B4 = true := by kernel_rfl
theorem spec_l03Elements.calls (k : Nat) (a0_0 : Int) (a0_1 : Int) (A1 : Option Addr) (c1 : Nat) (l1 : List Int) (r : Bool) (w : World) (hr1 : Kd.C (Kd.int .i64) w A1 l1.length l1) (hc1 : l1.length ≤ c1) (h : spec_l03Elements.f k a0_0 a0_1 l1 = some r) :
 Calls Try.prog 81 #[.agg #[.int .i64 a0_0, .int .i64 a0_1], .slice A1 l1.length c1] w fun e w' => e = .returned (.bool r) ∧ Below w.heap.size w w' := by
 have hu26 := Try.underlying26
 have HR1 := Aq.mk hr1
 have HC1 := Aq.mk hc1
 clear hr1 hc1
 have HB := Aq.mk (Below.refl w.heap.size w)
 have H : (spec_l03Elements.l0 k l1 0 a0_0 a0_1) = some r := h
 clear h
 replace H' := Aq.mk H
 clear H
 go_enter Try.func81, Try.ntmps81
 go_wp2_with (first | ((with_reducible refine gQd (N := 2) rfl ?_); refine xQe ?hg (N := 2) ?hd (cs := #[.int .i64 a0_0, .int .i64 a0_1]) (t := 26) ?hr ?_; (case hd => rfl); (case hg => rfl); (case hr => exact tH); intro gb414 hg w3 hbox hb; refine qM4 (bQT tB hb) hbox (tZ w hg) (tZ w hg) ?_; clear HB; intro HB BK414 GW414 GE414; clear hb hbox hg))
 go_loopg [5] k (fun kq v5 w' => ∃ (x5_1 : Int), v5 = .int .i64 x5_1 ∧ Aq (spec_l03Elements.l0 kq l1 x5_1 a0_0 a0_1 = some r) ∧ Aq (kq ≤ k) ∧ Aq (w'.heap[gb414]? = some (.cells #[.int .i64 a0_0, .int .i64 a0_1] 26 (0, 0))) ∧ Aq (Below w.heap.size w w'))
 case atStart => exact ⟨(0), tS, H', ⟨Nat.le_refl _⟩, ⟨tG BK414.out⟩, ⟨tB⟩⟩
 clear H'
 try clear c1
 obtain ⟨x5_1, rfl, HA, HK1, BK414, HB⟩ := hrel
 cases gk with
 | zero => exact absurd HA.out (by simp [spec_l03Elements.l0])
 | succ k1 =>
  have H := HA.out
  clear HA
  simp only [spec_l03Elements.l0] at H
  by_cases c4 : x5_1 < (l1.length : Int)
  rotate_left
  ·rw [if_neg c4] at H
   have c4b0 := decide_eq_false c4
   clear c4
   obtain rfl := Option.some.inj H
   go_wp2
   go_ret
   exact ⟨tE, tB⟩
  rw [if_pos c4] at H
  have c4b0 := decide_eq_true c4
  clear c4
  by_cases c5 : 0 ≤ x5_1
  rotate_left
  ·rw [if_neg c5] at H
   exact absurd H (by simp)
  rw [if_pos c5] at H
  have c5b0 := decide_eq_true c5
  clear c5
  obtain ⟨t416, A6, H⟩ := qBd H
  obtain ⟨t417, A7, H⟩ := qBd H
  by_cases c8 : t417 = true
  ·subst c8
   rw [if_pos rfl] at H
   replace H' := Aq.mk H
   clear H
   try go_wp2
   have n0_ := Aq.mk (kQD BK414.out)
   have n1_ := Aq.mk (bQ1 HB.out)
   clear BK414
   clear HB
   have BK414 := n0_
   have HB := n1_
   clear n0_ n1_
   have p415 : 0 ≤ (x5_1 : Int) := of_decide_eq_true tA
   have q415 : x5_1 < (l1.length : Int) := of_decide_eq_true tA
   obtain ⟨ad415, e415, hx415_0⟩ := Kd.at_int HR1.out x5_1 p415 q415
   have hw415_0 := hx415_0
   cases e415
   replace hx415_0 := (HB.out.cell (World.block_lt_of_cell? w _ hx415_0)).trans hx415_0
   replace p415 := eq_true p415
   replace q415 := eq_true q415
   refine start_ (n := 9) (S := fun w' => w'.cell? ⟨gb414, 0, none⟩ = some (.int .i64 a0_0) ∧ w'.cell? ⟨gb414, 1, none⟩ = some (.int .i64 a0_1) ∧ w'.cell? (ad415.add (x5_1).toNat) = some (.int .i64 (rd l1 x5_1))) (ds := []) #[false, false, false, false, false, false, false, false, false] (by kernel_rfl) rfl rfl ⟨(kQC BK414.out 0).trans rfl, (kQC BK414.out 1).trans rfl, (tcw tB hw415_0)⟩ (fun hHeld => ?_); refine with_tabW spec_l03Elements.tab4 spec_l03Elements.bits4 (fun HT_ HW_ => ?_)
   generalize wr.drew = w9 at BK414 HB hx415_0 hHeld ⊢
   refine tP0 0 12 (bm 9 1) ?_
   refine tP0 1 13 (bm 9 3) ?_
   refine tP0 2 14 (bm 9 7) ?_
   refine tT3 3 15 (bm 9 15) ?_
   refine tT3 4 16 (bm 9 31) ?_
   refine one_ (i := 5) (N := some 17) (bm 9 63) rfl rfl (one_of HT_.out (by kernel_rfl)) (by decide) (fun K hK => ?_)
   refine goes_ Try.func36 (by kernel_rfl) rfl #[.agg #[.int .i64 a0_0, .int .i64 a0_1]] (by rfl) rfl rfl tL ?_
   with_reducible refine (spec_l01Size.calls a0_0 a0_1 t416 _ A6.out).mono ?_
   rintro e w10 ⟨rfl, hb⟩
   refine ⟨_, rfl, ?_⟩
   have n0_ := Aq.mk (tQ BK414.out hb)
   have n1_ := Aq.mk (bQT tB hb)
   clear BK414
   clear HB
   have BK414 := n0_
   have HB := n1_
   clear n0_ n1_
   (try clear hb)
   (try clear hb2)
   (try clear hk)
   (try clear hi)
   refine hK.out _ _ ⟨(kQC BK414.out 0).trans rfl, (kQC BK414.out 1).trans rfl, (tcw tB hw415_0)⟩ (fun hHeld => ?_)
   clear hK K
   refine tN 17 ?_
   refine tP0 6 18 (bm 9 127) ?_
   refine one_ (i := 7) (N := some 19) (bm 9 255) rfl rfl (one_of HT_.out (by kernel_rfl)) (by decide) (fun K hK => ?_)
   refine goes_ Try.func35 (by kernel_rfl) rfl #[.int .i64 (rd l1 x5_1), .int .i64 0, .int .i64 (wrap64 (t416 - 1))] (by rfl) rfl rfl tL ?_
   with_reducible refine (spec_l00In.calls (rd l1 x5_1) 0 (wrap64 (t416 - 1)) true _ A7.out).mono ?_
   rintro e w' ⟨rfl, ⟨nd, rfl⟩⟩
   refine ⟨_, rfl, ?_⟩
   refine hK.out _ _ ⟨(kQC BK414.out 0).trans rfl, (kQC BK414.out 1).trans rfl, (tcw tB hw415_0)⟩ (fun hHeld => ?_)
   clear hK K
   refine tN 19 ?_
   refine tP0 8 20 (bm 9 511) ?_
   refine done_ (done_of HT_.out (by kernel_rfl)) ?_
   try go_wp2
   go_roundg k1
   case measure => have := HK1.out; omega
   case rel => exact ⟨(wrap64 (x5_1 + 1)), tS, H', ⟨by have := HK1.out; omega⟩, ⟨tG BK414.out⟩, ⟨tB⟩⟩
  replace c8 := Bool.eq_false_iff.mpr c8
  subst c8
  rw [if_neg (show ¬ (false = true) by decide)] at H
  obtain rfl := Option.some.inj H
  try go_wp2
  have n0_ := Aq.mk (kQD BK414.out)
  have n1_ := Aq.mk (bQ1 HB.out)
  clear BK414
  clear HB
  have BK414 := n0_
  have HB := n1_
  clear n0_ n1_
  have p415 : 0 ≤ (x5_1 : Int) := of_decide_eq_true tA
  have q415 : x5_1 < (l1.length : Int) := of_decide_eq_true tA
  obtain ⟨ad415, e415, hx415_0⟩ := Kd.at_int HR1.out x5_1 p415 q415
  have hw415_0 := hx415_0
  cases e415
  replace hx415_0 := (HB.out.cell (World.block_lt_of_cell? w _ hx415_0)).trans hx415_0
  replace p415 := eq_true p415
  replace q415 := eq_true q415
  refine start_ (n := 9) (S := fun w' => w'.cell? ⟨gb414, 0, none⟩ = some (.int .i64 a0_0) ∧ w'.cell? ⟨gb414, 1, none⟩ = some (.int .i64 a0_1) ∧ w'.cell? (ad415.add (x5_1).toNat) = some (.int .i64 (rd l1 x5_1))) (ds := []) #[false, false, false, false, false, false, false, false, false] (by kernel_rfl) rfl rfl ⟨(kQC BK414.out 0).trans rfl, (kQC BK414.out 1).trans rfl, (tcw tB hw415_0)⟩ (fun hHeld => ?_); refine with_tabW spec_l03Elements.tab4 spec_l03Elements.bits4 (fun HT_ HW_ => ?_)
  generalize wr.drew = w11 at BK414 HB hx415_0 hHeld ⊢
  refine tP0 0 12 (bm 9 1) ?_
  refine tP0 1 13 (bm 9 3) ?_
  refine tP0 2 14 (bm 9 7) ?_
  refine tT3 3 15 (bm 9 15) ?_
  refine tT3 4 16 (bm 9 31) ?_
  refine one_ (i := 5) (N := some 17) (bm 9 63) rfl rfl (one_of HT_.out (by kernel_rfl)) (by decide) (fun K hK => ?_)
  refine goes_ Try.func36 (by kernel_rfl) rfl #[.agg #[.int .i64 a0_0, .int .i64 a0_1]] (by rfl) rfl rfl tL ?_
  with_reducible refine (spec_l01Size.calls a0_0 a0_1 t416 _ A6.out).mono ?_
  rintro e w12 ⟨rfl, hb⟩
  refine ⟨_, rfl, ?_⟩
  have n0_ := Aq.mk (tQ BK414.out hb)
  have n1_ := Aq.mk (bQT tB hb)
  clear BK414
  clear HB
  have BK414 := n0_
  have HB := n1_
  clear n0_ n1_
  (try clear hb)
  (try clear hb2)
  (try clear hk)
  (try clear hi)
  refine hK.out _ _ ⟨(kQC BK414.out 0).trans rfl, (kQC BK414.out 1).trans rfl, (tcw tB hw415_0)⟩ (fun hHeld => ?_)
  clear hK K
  refine tN 17 ?_
  refine tP0 6 18 (bm 9 127) ?_
  refine one_ (i := 7) (N := some 19) (bm 9 255) rfl rfl (one_of HT_.out (by kernel_rfl)) (by decide) (fun K hK => ?_)
  refine goes_ Try.func35 (by kernel_rfl) rfl #[.int .i64 (rd l1 x5_1), .int .i64 0, .int .i64 (wrap64 (t416 - 1))] (by rfl) rfl rfl tL ?_
  with_reducible refine (spec_l00In.calls (rd l1 x5_1) 0 (wrap64 (t416 - 1)) false _ A7.out).mono ?_
  rintro e w' ⟨rfl, ⟨nd, rfl⟩⟩
  refine ⟨_, rfl, ?_⟩
  refine hK.out _ _ ⟨(kQC BK414.out 0).trans rfl, (kQC BK414.out 1).trans rfl, (tcw tB hw415_0)⟩ (fun hHeld => ?_)
  clear hK K
  refine tN 19 ?_
  refine tP0 8 20 (bm 9 511) ?_
  refine done_ (done_of HT_.out (by kernel_rfl)) ?_
  try go_wp2
  go_ret
  exact ⟨tE, tB⟩
def spec_l03Ok.f (k : Nat) (a0_0 : Int) (a0_1 : Int) (l1 : List Int) : Option (Bool) := if (l1.length : Int) ≤ 12 then ((spec_l03Elements.f k a0_0 a0_1 l1).bind fun t419 => (if t419 = true then (if (l1.length : Int) = 0 then (some true) else (if 0 ≤ (wrap64 ((l1.length : Int) - 1)) then (if (wrap64 ((l1.length : Int) - 1)) < (l1.length : Int) then (some ((rd l1 (wrap64 ((l1.length : Int) - 1))) != 0)) else (none)) else (none))) else (some false))) else (some false)
theorem spec_l03Ok.mono : ∀ a0 a1 a2 k, LeO (spec_l03Ok.f k a0 a1 a2) (spec_l03Ok.f (k + 1) a0 a1 a2) := by
 intro a0 a1 a2 k
 unfold spec_l03Ok.f
 repeat' first
  | (with_reducible first | apply spec_l03Elements.mono | exact LeO.refl _ | exact LeO.none _ | refine LeO.ite ?_ ?_ | refine LeO.bind ?_ (fun _ => ?_))
  | exact LeO.none _
  | refine LeO.ite ?_ ?_
  | refine LeO.bind ?_ (fun _ => ?_)
theorem spec_l03Ok.calls (k : Nat) (a0_0 : Int) (a0_1 : Int) (A1 : Option Addr) (c1 : Nat) (l1 : List Int) (r : Bool) (w : World) (hr1 : Kd.C (Kd.int .i64) w A1 l1.length l1) (hc1 : l1.length ≤ c1) (h : spec_l03Ok.f k a0_0 a0_1 l1 = some r) :
 Calls Try.prog 72 #[.agg #[.int .i64 a0_0, .int .i64 a0_1], .slice A1 l1.length c1] w fun e w' => e = .returned (.bool r) ∧ Below w.heap.size w w' := by
 have hu26 := Try.underlying26
 have HR1 := Aq.mk hr1
 have HC1 := Aq.mk hc1
 clear hr1 hc1
 have HB := Aq.mk (Below.refl w.heap.size w)
 have H : (if (l1.length : Int) ≤ 12 then ((spec_l03Elements.f k a0_0 a0_1 l1).bind fun t419 => (if t419 = true then (if (l1.length : Int) = 0 then (some true) else (if 0 ≤ (wrap64 ((l1.length : Int) - 1)) then (if (wrap64 ((l1.length : Int) - 1)) < (l1.length : Int) then (some ((rd l1 (wrap64 ((l1.length : Int) - 1))) != 0)) else (none)) else (none))) else (some false))) else (some false)) = some r := h
 clear h
 by_cases c3 : (l1.length : Int) ≤ 12
 rotate_left
 ·rw [if_neg c3] at H
  have c3b0 := decide_eq_false c3
  have c3b1 : decide (l1.length ≤ 12) = false := decide_eq_false (by omega)
  clear c3
  obtain rfl := Option.some.inj H
  go_enter Try.func72, Try.ntmps72
  go_wp2_with (first | ((with_reducible refine gQd (N := 2) rfl ?_); (try (refine gate_guard (by rfl) ?_; dsimp only)); refine xQe ?hg (N := 2) ?hd (cs := #[.int .i64 a0_0, .int .i64 a0_1]) (t := 26) ?hr ?_; (case hd => rfl); (case hg => rfl); (case hr => exact tH); intro gb418 hg w19 hbox hb; refine qM4 (bQT tB hb) hbox (tZ w hg) (tZ w hg) ?_; clear HB; intro HB BK418 GW418 GE418; clear hb hbox hg))
  go_ret
  exact ⟨tE, tB⟩
 rw [if_pos c3] at H
 have c3b0 := decide_eq_true c3
 have c3b1 : decide (l1.length ≤ 12) = true := decide_eq_true (by omega)
 clear c3
 obtain ⟨t419, A4, H⟩ := qBd H
 by_cases c5 : t419 = true
 rotate_left
 ·replace c5 := Bool.eq_false_iff.mpr c5
  subst c5
  rw [if_neg (show ¬ (false = true) by decide)] at H
  obtain rfl := Option.some.inj H
  go_enter Try.func72, Try.ntmps72
  go_wp2_with (first | ((with_reducible refine gQd (N := 2) rfl ?_); (try (refine gate_guard (by rfl) ?_; dsimp only)); refine xQe ?hg (N := 2) ?hd (cs := #[.int .i64 a0_0, .int .i64 a0_1]) (t := 26) ?hr ?_; (case hd => rfl); (case hg => rfl); (case hr => exact tH); intro gb418 hg w16 hbox hb; refine qM4 (bQT tB hb) hbox (tZ w hg) (tZ w hg) ?_; clear HB; intro HB BK418 GW418 GE418; clear hb hbox hg; have hcz17_0 : w16.cell? ⟨gb418, 0, none⟩ = some (.int .i64 a0_0) := (kQC BK418.out 0).trans rfl; have hcz17_1 : w16.cell? ⟨gb418, 1, none⟩ = some (.int .i64 a0_1) := (kQC BK418.out 1).trans rfl; have hfz17_0 := kQF BK418.out 0; have hfz17_1 := kQF BK418.out 1) | (go_at_call 81; (with_reducible refine (spec_l03Elements.calls k a0_0 a0_1 _ _ l1 false _ ?s1 ?s2 A4.out).mono ?_); (case s1 => exact tC ((Kd.C_below HR1.out HB.out))); (case s2 => exact HC1.out); rintro e w18 ⟨rfl, hb⟩; refine qM2 (tQ BK418.out hb) (bQT tB hb) ?_; clear BK418 HB; intro BK418 HB; (try clear hb); (try clear hb2); (try clear hk); (try clear hi)))
  go_ret
  exact ⟨tE, tB⟩
 subst c5
 rw [if_pos rfl] at H
 by_cases c6 : (l1.length : Int) = 0
 ·rw [if_pos c6] at H
  have c6b0 := beq_iff_eq.mpr c6
  have c6b1 := bne_eq_false_iff_eq.mpr c6
  clear c6
  obtain rfl := Option.some.inj H
  go_enter Try.func72, Try.ntmps72
  go_wp2_with (first | ((with_reducible refine gQd (N := 2) rfl ?_); (try (refine gate_guard (by rfl) ?_; dsimp only)); refine xQe ?hg (N := 2) ?hd (cs := #[.int .i64 a0_0, .int .i64 a0_1]) (t := 26) ?hr ?_; (case hd => rfl); (case hg => rfl); (case hr => exact tH); intro gb418 hg w7 hbox hb; refine qM4 (bQT tB hb) hbox (tZ w hg) (tZ w hg) ?_; clear HB; intro HB BK418 GW418 GE418; clear hb hbox hg; have hcz8_0 : w7.cell? ⟨gb418, 0, none⟩ = some (.int .i64 a0_0) := (kQC BK418.out 0).trans rfl; have hcz8_1 : w7.cell? ⟨gb418, 1, none⟩ = some (.int .i64 a0_1) := (kQC BK418.out 1).trans rfl; have hfz8_0 := kQF BK418.out 0; have hfz8_1 := kQF BK418.out 1) | (go_at_call 81; (with_reducible refine (spec_l03Elements.calls k a0_0 a0_1 _ _ l1 true _ ?s1 ?s2 A4.out).mono ?_); (case s1 => exact tC ((Kd.C_below HR1.out HB.out))); (case s2 => exact HC1.out); rintro e w9 ⟨rfl, hb⟩; refine qM2 (tQ BK418.out hb) (bQT tB hb) ?_; clear BK418 HB; intro BK418 HB; (try clear hb); (try clear hb2); (try clear hk); (try clear hi)))
  go_ret
  exact ⟨tE, tB⟩
 rw [if_neg c6] at H
 have c6b0 := beq_eq_false_iff_ne.mpr c6
 have c6b1 := bne_iff_ne.mpr c6
 have c6b2 : ¬ (l1 = []) := fun h_ => c6 (by rw [h_]; rfl)
 obtain ⟨ji10, hji10⟩ : ∃ j_ : Int, (wrap64 ((l1.length : Int) - 1)) = j_ := ⟨_, rfl⟩
 first | rw [hji10] at H | simp only [hji10] at H | skip
 (try rw [hji10] at A4)
 have hji10w : (IntKind.i64.wrap ((l1.length : Int) - 1)) = ji10 := (i64_w _).trans hji10
 by_cases c11 : 0 ≤ (ji10)
 rotate_left
 ·rw [if_neg c11] at H
  exact absurd H (by simp)
 rw [if_pos c11] at H
 have c11b0 := decide_eq_true c11
 clear c11
 by_cases c12 : (ji10) < (l1.length : Int)
 rotate_left
 ·rw [if_neg c12] at H
  exact absurd H (by simp)
 rw [if_pos c12] at H
 have c12b0 := decide_eq_true c12
 clear c12
 obtain rfl := Option.some.inj H
 go_enter Try.func72, Try.ntmps72
 go_wp2_with (first | ((with_reducible refine gQd (N := 2) rfl ?_); (try (refine gate_guard (by rfl) ?_; dsimp only)); refine xQe ?hg (N := 2) ?hd (cs := #[.int .i64 a0_0, .int .i64 a0_1]) (t := 26) ?hr ?_; (case hd => rfl); (case hg => rfl); (case hr => exact tH); intro gb418 hg w13 hbox hb; refine qM4 (bQT tB hb) hbox (tZ w hg) (tZ w hg) ?_; clear HB; intro HB BK418 GW418 GE418; clear hb hbox hg; have hcz14_0 : w13.cell? ⟨gb418, 0, none⟩ = some (.int .i64 a0_0) := (kQC BK418.out 0).trans rfl; have hcz14_1 : w13.cell? ⟨gb418, 1, none⟩ = some (.int .i64 a0_1) := (kQC BK418.out 1).trans rfl; have hfz14_0 := kQF BK418.out 0; have hfz14_1 := kQF BK418.out 1) | (go_at_call 81; (with_reducible refine (spec_l03Elements.calls k a0_0 a0_1 _ _ l1 true _ ?s1 ?s2 A4.out).mono ?_); (case s1 => exact tC ((Kd.C_below HR1.out HB.out))); (case s2 => exact HC1.out); rintro e w15 ⟨rfl, hb⟩; refine qM2 (tQ BK418.out hb) (bQT tB hb) ?_; clear BK418 HB; intro BK418 HB; (try clear hb); (try clear hb2); (try clear hk); (try clear hi); have p420 : 0 ≤ ((ji10) : Int) := of_decide_eq_true tA; have q420 : (ji10) < (l1.length : Int) := of_decide_eq_true tA; obtain ⟨ad420, e420, hx420_0⟩ := Kd.at_int HR1.out (ji10) p420 q420; cases e420; replace hx420_0 := (HB.out.cell (World.block_lt_of_cell? w _ hx420_0)).trans hx420_0; replace p420 := eq_true p420; replace q420 := eq_true q420))
 go_ret
 exact ⟨by first | rfl | (simp [errW_none, errW_some] <;> rfl) | (simp only [← hji10]; first | rfl | (simp [errW_none, errW_some] <;> rfl)) | (simp [*, errW_none, errW_some] <;> rfl), tB⟩
def spec_ValidLinear.f (k : Nat) (a0_0 : Int) (a0_1 : Int) (l1 : List Int) : Option (Bool) := (spec_l01Ok.f k a0_0 a0_1).bind fun t422 => (if t422 = true then ((spec_l03Ok.f k a0_0 a0_1 l1).bind fun t423 => (some t423)) else (some false))
theorem spec_ValidLinear.mono : ∀ a0 a1 a2 k, LeO (spec_ValidLinear.f k a0 a1 a2) (spec_ValidLinear.f (k + 1) a0 a1 a2) := by
 intro a0 a1 a2 k
 unfold spec_ValidLinear.f
 repeat' first
  | (with_reducible first | apply spec_l01Ok.mono | apply spec_l03Ok.mono | exact LeO.refl _ | exact LeO.none _ | refine LeO.ite ?_ ?_ | refine LeO.bind ?_ (fun _ => ?_))
  | exact LeO.none _
  | refine LeO.ite ?_ ?_
  | refine LeO.bind ?_ (fun _ => ?_)
theorem spec_ValidLinear.calls (k : Nat) (a0_0 : Int) (a0_1 : Int) (A1 : Option Addr) (c1 : Nat) (l1 : List Int) (r : Bool) (w : World) (hr1 : Kd.C (Kd.int .i64) w A1 l1.length l1) (hc1 : l1.length ≤ c1) (h : spec_ValidLinear.f k a0_0 a0_1 l1 = some r) :
 Calls Try.prog 53 #[.agg #[.int .i64 a0_0, .int .i64 a0_1], .slice A1 l1.length c1] w fun e w' => e = .returned (.bool r) ∧ Below w.heap.size w w' := by
 have hu26 := Try.underlying26
 have HR1 := Aq.mk hr1
 have HC1 := Aq.mk hc1
 clear hr1 hc1
 have HB := Aq.mk (Below.refl w.heap.size w)
 have H : ((spec_l01Ok.f k a0_0 a0_1).bind fun t422 => (if t422 = true then ((spec_l03Ok.f k a0_0 a0_1 l1).bind fun t423 => (some t423)) else (some false))) = some r := h
 clear h
 obtain ⟨t422, A3, H⟩ := qBd H
 by_cases c4 : t422 = true
 ·subst c4
  rw [if_pos rfl] at H
  obtain ⟨t423, A5, H⟩ := qBd H
  obtain rfl := Option.some.inj H
  go_enter Try.func53, Try.ntmps53
  go_wp2_with (first | ((with_reducible refine gQd (N := 2) rfl ?_); refine xQe ?hg (N := 2) ?hd (cs := #[.int .i64 a0_0, .int .i64 a0_1]) (t := 26) ?hr ?_; (case hd => rfl); (case hg => rfl); (case hr => exact tH); intro gb421 hg w6 hbox hb; refine qM4 (bQT tB hb) hbox (tZ w hg) (tZ w hg) ?_; clear HB; intro HB BK421 GW421 GE421; clear hb hbox hg; have hcz7_0 : w6.cell? ⟨gb421, 0, none⟩ = some (.int .i64 a0_0) := (kQC BK421.out 0).trans rfl; have hcz7_1 : w6.cell? ⟨gb421, 1, none⟩ = some (.int .i64 a0_1) := (kQC BK421.out 1).trans rfl; have hfz7_0 := kQF BK421.out 0; have hfz7_1 := kQF BK421.out 1) | ((with_reducible refine gQc (f := 29) rfl ?_); refine goesL_ (some 6) rfl rfl Try.func29 (by kernel_rfl) rfl #[.agg #[.int .i64 a0_0, .int .i64 a0_1]] rfl tL ?_; (with_reducible refine (spec_l01Ok.calls k a0_0 a0_1 true _ A3.out).mono ?_); rintro e w8 ⟨rfl, hb⟩; refine ⟨_, rfl, ?_⟩; refine qM2 (tQ BK421.out hb) (bQT tB hb) ?_; clear BK421 HB; intro BK421 HB; (try clear hb); (try clear hb2); (try clear hk); (try clear hi); have hcz9_0 : w8.cell? ⟨gb421, 0, none⟩ = some (.int .i64 a0_0) := (kQC BK421.out 0).trans rfl; have hcz9_1 : w8.cell? ⟨gb421, 1, none⟩ = some (.int .i64 a0_1) := (kQC BK421.out 1).trans rfl; have hfz9_0 := kQF BK421.out 0; have hfz9_1 := kQF BK421.out 1) | (go_at_call 72; (with_reducible refine (spec_l03Ok.calls k a0_0 a0_1 _ _ l1 t423 _ ?s1 ?s2 A5.out).mono ?_); (case s1 => exact tC ((Kd.C_below HR1.out HB.out))); (case s2 => exact HC1.out); rintro e w10 ⟨rfl, hb⟩; refine qM2 (tQ BK421.out hb) (bQT tB hb) ?_; clear BK421 HB; intro BK421 HB; (try clear hb); (try clear hb2); (try clear hk); (try clear hi)))
  go_ret
  exact ⟨tE, tB⟩
 replace c4 := Bool.eq_false_iff.mpr c4
 subst c4
 rw [if_neg (show ¬ (false = true) by decide)] at H
 obtain rfl := Option.some.inj H
 go_enter Try.func53, Try.ntmps53
 go_wp2_with (first | ((with_reducible refine gQd (N := 2) rfl ?_); refine xQe ?hg (N := 2) ?hd (cs := #[.int .i64 a0_0, .int .i64 a0_1]) (t := 26) ?hr ?_; (case hd => rfl); (case hg => rfl); (case hr => exact tH); intro gb421 hg w11 hbox hb; refine qM4 (bQT tB hb) hbox (tZ w hg) (tZ w hg) ?_; clear HB; intro HB BK421 GW421 GE421; clear hb hbox hg; have hcz12_0 : w11.cell? ⟨gb421, 0, none⟩ = some (.int .i64 a0_0) := (kQC BK421.out 0).trans rfl; have hcz12_1 : w11.cell? ⟨gb421, 1, none⟩ = some (.int .i64 a0_1) := (kQC BK421.out 1).trans rfl; have hfz12_0 := kQF BK421.out 0; have hfz12_1 := kQF BK421.out 1) | ((with_reducible refine gQc (f := 29) rfl ?_); refine goesL_ (some 6) rfl rfl Try.func29 (by kernel_rfl) rfl #[.agg #[.int .i64 a0_0, .int .i64 a0_1]] rfl tL ?_; (with_reducible refine (spec_l01Ok.calls k a0_0 a0_1 false _ A3.out).mono ?_); rintro e w13 ⟨rfl, hb⟩; refine ⟨_, rfl, ?_⟩; refine qM2 (tQ BK421.out hb) (bQT tB hb) ?_; clear BK421 HB; intro BK421 HB; (try clear hb); (try clear hb2); (try clear hk); (try clear hi)))
 go_ret
 exact ⟨tE, tB⟩
def spec_l03Value.l0 : Nat → List Int → Int → Int → Int → Int → Int → Option (Int)
  | 0, _, _, _, _, _, _ => none
  | k + 1, x1, x2, x7, x8, x425000, x425001 => if x8 < (x1.length : Int) then (if 0 ≤ x8 then ((spec_l01Square.f k x425000 x425001 x2 x8).bind fun t426 => ((spec_l01Mul.f k x425000 x425001 (rd x1 x8) t426).bind fun t427 => (spec_l03Value.l0 k x1 x2 (Go.bits .xor .i64 x7 t427) (wrap64 (x8 + 1)) x425000 x425001))) else (none)) else (some x7)
def spec_l03Value.f (k : Nat) (a0_0 : Int) (a0_1 : Int) (l1 : List Int) (a2 : Int) : Option (Int) := spec_l03Value.l0 k l1 a2 0 0 a0_0 a0_1
theorem spec_l03Value.mono_l : ∀ k, (∀ y0 y1 y2 y3 y4 y5, LeO (spec_l03Value.l0 k y0 y1 y2 y3 y4 y5) (spec_l03Value.l0 (k + 1) y0 y1 y2 y3 y4 y5))
 | 0 => fun _ _ _ _ _ _ r h => by simp [spec_l03Value.l0] at h
 | k + 1 => by
  have ih0 := spec_l03Value.mono_l k
  ·intro y0 y1 y2 y3 y4 y5
   unfold spec_l03Value.l0
   repeat' first
   | (with_reducible first | apply ih0 | apply spec_l01Mul.mono | apply spec_l01Square.mono | exact LeO.refl _ | exact LeO.none _ | refine LeO.ite ?_ ?_ | refine LeO.bind ?_ (fun _ => ?_))
   | exact LeO.none _
   | refine LeO.ite ?_ ?_
   | refine LeO.bind ?_ (fun _ => ?_)
theorem spec_l03Value.mono : ∀ a0 a1 a2 a3 k, LeO (spec_l03Value.f k a0 a1 a2 a3) (spec_l03Value.f (k + 1) a0 a1 a2 a3) := by
 intro a0 a1 a2 a3 k
 have ih0 := spec_l03Value.mono_l k
 unfold spec_l03Value.f
 repeat' first
  | (with_reducible first | apply ih0 | apply spec_l01Mul.mono | apply spec_l01Square.mono | exact LeO.refl _ | exact LeO.none _ | refine LeO.ite ?_ ?_ | refine LeO.bind ?_ (fun _ => ?_))
  | exact LeO.none _
  | refine LeO.ite ?_ ?_
  | refine LeO.bind ?_ (fun _ => ?_)
def spec_l03Value.T5 : Bool × List (List Nat × List Nat) := (true, [([], []), ([], []), ([], []), ([], []), ([2, 3], [2, 3]), ([4], [4]), ([], []), ([], []), ([], []), ([6, 7, 8], [6, 7, 8]), ([1, 5, 9, 9], [1, 5, 9]), ([0, 10], [0, 10]), ([11, 10, 0, 1, 2, 3, 4, 5, 6, 7, 8, 9, 10, 11], [0, 11])])
def spec_l03Value.B5 : List Nat := [0, 0, 0, 0, 12, 28, 0, 0, 0, 448, 1022, 2047, 4095]
theorem spec_l03Value.tab5 : rtab .any (opsOf Try.f54 5) = spec_l03Value.T5 := by kernel_rfl
theorem spec_l03Value.bits5 : waitsOk spec_l03Value.T5.2 spec_l03Value.B5 = true := by kernel_rfl
theorem spec_l03Value.calls (k : Nat) (a0_0 : Int) (a0_1 : Int) (A1 : Option Addr) (c1 : Nat) (l1 : List Int) (a2 : Int) (r : Int) (w : World) (hr1 : Kd.C (Kd.int .i64) w A1 l1.length l1) (hc1 : l1.length ≤ c1) (h : spec_l03Value.f k a0_0 a0_1 l1 a2 = some r) :
 Calls Try.prog 54 #[.agg #[.int .i64 a0_0, .int .i64 a0_1], .slice A1 l1.length c1, .int .i64 a2] w fun e w' => e = .returned (.int .i64 r) ∧ Below w.heap.size w w' := by
 have hu26 := Try.underlying26
 have HR1 := Aq.mk hr1
 have HC1 := Aq.mk hc1
 clear hr1 hc1
 have HB := Aq.mk (Below.refl w.heap.size w)
 have H : (spec_l03Value.l0 k l1 a2 0 0 a0_0 a0_1) = some r := h
 clear h
 replace H' := Aq.mk H
 clear H
 go_enter Try.func54, Try.ntmps54
 go_wp2_with (first | ((with_reducible refine gQd (N := 3) rfl ?_); refine xQe ?hg (N := 3) ?hd (cs := #[.int .i64 a0_0, .int .i64 a0_1]) (t := 26) ?hr ?_; (case hd => rfl); (case hg => rfl); (case hr => exact tH); intro gb424 hg w4 hbox hb; refine qM4 (bQT tB hb) hbox (tZ w hg) (tZ w hg) ?_; clear HB; intro HB BK424 GW424 GE424; clear hb hbox hg))
 go_loopg [7, 8] k (fun kq v7 v8 w' => ∃ (x7_1 : Int) (x8_1 : Int), v7 = .int .i64 x7_1 ∧ v8 = .int .i64 x8_1 ∧ Aq (spec_l03Value.l0 kq l1 a2 x7_1 x8_1 a0_0 a0_1 = some r) ∧ Aq (kq ≤ k) ∧ Aq (w'.heap[gb424]? = some (.cells #[.int .i64 a0_0, .int .i64 a0_1] 26 (0, 0))) ∧ Aq (Below w.heap.size w w'))
 case atStart => exact ⟨(0), (0), tS, tS, H', ⟨Nat.le_refl _⟩, ⟨tG BK424.out⟩, ⟨tB⟩⟩
 clear H'
 try clear c1
 obtain ⟨x7_1, x8_1, rfl, rfl, HA, HK1, BK424, HB⟩ := hrel
 cases gk with
 | zero => exact absurd HA.out (by simp [spec_l03Value.l0])
 | succ k1 =>
  have H := HA.out
  clear HA
  simp only [spec_l03Value.l0] at H
  by_cases c5 : x8_1 < (l1.length : Int)
  rotate_left
  ·rw [if_neg c5] at H
   have c5b0 := decide_eq_false c5
   clear c5
   obtain rfl := Option.some.inj H
   go_wp2
   go_ret
   exact ⟨tE, tB⟩
  rw [if_pos c5] at H
  have c5b0 := decide_eq_true c5
  clear c5
  by_cases c6 : 0 ≤ x8_1
  rotate_left
  ·rw [if_neg c6] at H
   exact absurd H (by simp)
  rw [if_pos c6] at H
  have c6b0 := decide_eq_true c6
  clear c6
  obtain ⟨t426, A7, H⟩ := qBd H
  obtain ⟨t427, A8, H⟩ := qBd H
  replace H' := Aq.mk H
  clear H
  try go_wp2
  have n0_ := Aq.mk (kQD BK424.out)
  have n1_ := Aq.mk (bQ1 HB.out)
  clear BK424
  clear HB
  have BK424 := n0_
  have HB := n1_
  clear n0_ n1_
  have p425 : 0 ≤ (x8_1 : Int) := of_decide_eq_true tA
  have q425 : x8_1 < (l1.length : Int) := of_decide_eq_true tA
  obtain ⟨ad425, e425, hx425_0⟩ := Kd.at_int HR1.out x8_1 p425 q425
  have hw425_0 := hx425_0
  cases e425
  replace hx425_0 := (HB.out.cell (World.block_lt_of_cell? w _ hx425_0)).trans hx425_0
  replace p425 := eq_true p425
  replace q425 := eq_true q425
  refine start_ (n := 13) (S := fun w' => w'.cell? ⟨gb424, 0, none⟩ = some (.int .i64 a0_0) ∧ w'.cell? ⟨gb424, 1, none⟩ = some (.int .i64 a0_1) ∧ w'.cell? (ad425.add (x8_1).toNat) = some (.int .i64 (rd l1 x8_1))) (ds := []) #[false, false, false, false, false, false, false, false, false, false, false, false, false] (by kernel_rfl) rfl rfl ⟨(kQC BK424.out 0).trans rfl, (kQC BK424.out 1).trans rfl, (tcw tB hw425_0)⟩ (fun hHeld => ?_); refine with_tabW spec_l03Value.tab5 spec_l03Value.bits5 (fun HT_ HW_ => ?_)
  generalize wr.drew = w9 at BK424 HB hx425_0 hHeld ⊢
  refine tP0 0 15 (bm 13 1) ?_
  refine tP0 2 17 (bm 13 5) ?_
  refine tP0 3 18 (bm 13 13) ?_
  refine tP0 4 19 (bm 13 29) ?_
  refine tP0 7 22 (bm 13 157) ?_
  refine tP0 8 23 (bm 13 413) ?_
  refine tT3 1 16 (bm 13 415) ?_
  refine tT3 5 20 (bm 13 447) ?_
  refine tT3 6 21 (bm 13 511) ?_
  refine one_ (i := 9) (N := some 24) (bm 13 1023) rfl rfl (one_of HT_.out (by kernel_rfl)) (by decide) (fun K hK => ?_)
  refine goes_ Try.func37 (by kernel_rfl) rfl #[.agg #[.int .i64 a0_0, .int .i64 a0_1], .int .i64 a2, .int .i64 x8_1] (by rfl) rfl rfl tL ?_
  with_reducible refine (spec_l01Square.calls k1 a0_0 a0_1 a2 x8_1 t426 _ A7.out).mono ?_
  rintro e w10 ⟨rfl, hb⟩
  refine ⟨_, rfl, ?_⟩
  have n0_ := Aq.mk (tQ BK424.out hb)
  have n1_ := Aq.mk (bQT tB hb)
  clear BK424
  clear HB
  have BK424 := n0_
  have HB := n1_
  clear n0_ n1_
  (try clear hb)
  (try clear hb2)
  (try clear hk)
  (try clear hi)
  refine hK.out _ _ ⟨(kQC BK424.out 0).trans rfl, (kQC BK424.out 1).trans rfl, (tcw tB hw425_0)⟩ (fun hHeld => ?_)
  clear hK K
  refine tN 24 ?_
  refine one_ (i := 10) (N := some 25) (bm 13 2047) rfl rfl (one_of HT_.out (by kernel_rfl)) (by decide) (fun K hK => ?_)
  refine goes_ Try.func48 (by kernel_rfl) rfl #[.agg #[.int .i64 a0_0, .int .i64 a0_1], .int .i64 (rd l1 x8_1), .int .i64 t426] (by rfl) rfl rfl tL ?_
  with_reducible refine (spec_l01Mul.calls k1 a0_0 a0_1 (rd l1 x8_1) t426 t427 _ A8.out).mono ?_
  rintro e w11 ⟨rfl, hb⟩
  refine ⟨_, rfl, ?_⟩
  have n0_ := Aq.mk (tQ BK424.out hb)
  have n1_ := Aq.mk (bQT tB hb)
  clear BK424
  clear HB
  have BK424 := n0_
  have HB := n1_
  clear n0_ n1_
  (try clear hb)
  (try clear hb2)
  (try clear hk)
  (try clear hi)
  refine hK.out _ _ ⟨(kQC BK424.out 0).trans rfl, (kQC BK424.out 1).trans rfl, (tcw tB hw425_0)⟩ (fun hHeld => ?_)
  clear hK K
  refine tN 25 ?_
  refine tP0 11 26 (bm 13 4095) ?_
  refine tP0 12 7 (bm 13 8191) ?_
  refine done_ (done_of HT_.out (by kernel_rfl)) ?_
  try go_wp2
  go_roundg k1
  case measure => have := HK1.out; omega
  case rel => exact ⟨(Go.bits .xor .i64 x7_1 t427), (wrap64 (x8_1 + 1)), tS, tS, H', ⟨by have := HK1.out; omega⟩, ⟨tG BK424.out⟩, ⟨tB⟩⟩
end Go.Proofs.Ytbgbblgdbcjibaa.P
