/- Functions of the program and what they tell, as the printing program wrote it. -/
import Derived.Test.YtpigghpimgkilaaPx0
import Derived.Test.YtpigghpimgkilaaPx1
import Derived.Test.YtpigghpimgkilaaPx3
namespace Go.Proofs.Ytpigghpimgkilaa.P
open Go.Shelf Go.RowKit Go.Proofs.YtpigghpimgkilaaW.PrintWords Go.Proofs.YtpigghpimgkilaaW.PrintLast Go.Proofs.YtpigghpimgkilaaW.PrintMore
attribute [local go_sem] max2_int min2_int max_two min_two max_three min_three max_four min_four
set_option linter.unusedVariables false
set_option linter.unusedSimpArgs false
set_option maxHeartbeats 8000000
set_option maxRecDepth 100000
def spec_l03Elements.l0 : Nat → List Int → Int → Int → Int → Option (Bool)
  | 0, _, _, _, _ => none
  | k + 1, x1, x5, x114000, x114001 => if x5 < (x1.length : Int) then (if 0 ≤ x5 then ((spec_l01Size.f x114000 x114001).bind fun t115 => ((spec_l00In.f (rd x1 x5) 0 (wrap64 (t115 - 1))).bind fun t116 => (if t116 = true then (spec_l03Elements.l0 k x1 (wrap64 (x5 + 1)) x114000 x114001) else (some false)))) else (none)) else (some true)
def spec_l03Elements.f (k : Nat) (a0_0 : Int) (a0_1 : Int) (l1 : List Int) : Option (Bool) := spec_l03Elements.l0 k l1 0 a0_0 a0_1
theorem spec_l03Elements.mono_l : ∀ k, (∀ y0 y1 y2 y3, LeO (spec_l03Elements.l0 k y0 y1 y2 y3) (spec_l03Elements.l0 (k + 1) y0 y1 y2 y3))
 | 0 => fun _ _ _ _ r h => by simp [spec_l03Elements.l0] at h
 | k + 1 => by
  have ih0 := spec_l03Elements.mono_l k
  ·intro y0 y1 y2 y3
   unfold spec_l03Elements.l0
   repeat' first
   | (with_reducible first | apply ih0 | exact LeO.refl _ | exact LeO.none _ | refine LeO.ite ?_ ?_ | refine LeO.bind ?_ (fun _ => ?_))
   | exact LeO.none _
   | refine LeO.ite ?_ ?_
   | refine LeO.bind ?_ (fun _ => ?_)
theorem spec_l03Elements.mono : ∀ a0 a1 a2 k, LeO (spec_l03Elements.f k a0 a1 a2) (spec_l03Elements.f (k + 1) a0 a1 a2) := by
 intro a0 a1 a2 k
 have ih0 := spec_l03Elements.mono_l k
 unfold spec_l03Elements.f
 repeat' first
  | (with_reducible first | apply ih0 | exact LeO.refl _ | exact LeO.none _ | refine LeO.ite ?_ ?_ | refine LeO.bind ?_ (fun _ => ?_))
  | exact LeO.none _
  | refine LeO.ite ?_ ?_
  | refine LeO.bind ?_ (fun _ => ?_)
def spec_l03Elements.T4 : Bool × List (List Nat × List Nat) := (true, [([], []), ([], []), ([0, 1], [0, 1]), ([2], [2]), ([], []), ([4], [4]), ([5], [5]), ([3, 6, 5], [3, 6]), ([7], [7])])
def spec_l03Elements.B4 : List Nat := [0, 0, 3, 7, 0, 16, 48, 127, 255]
theorem spec_l03Elements.tab4 : rtab .any (opsOf Try.f69 4) = spec_l03Elements.T4 := by kernel_rfl
theorem spec_l03Elements.bits4 : waitsOk spec_l03Elements.T4.2 spec_l03Elements.B4 = true := by kernel_rfl
theorem spec_l03Elements.calls (k : Nat) (a0_0 : Int) (a0_1 : Int) (A1 : Option Addr) (c1 : Nat) (l1 : List Int) (r : Bool) (w : World) (hr1 : Kd.C (Kd.int .i64) w A1 l1.length l1) (hc1 : l1.length ≤ c1) (h : spec_l03Elements.f k a0_0 a0_1 l1 = some r) :
 Calls Try.prog 69 #[.agg #[.int .i64 a0_0, .int .i64 a0_1], .slice A1 l1.length c1] w fun e w' => e = .returned (.bool r) ∧ Below w.heap.size w w' := by
 have hu27 := Try.underlying27
 have HR1 := Aq.mk hr1
 have HC1 := Aq.mk hc1
 clear hr1 hc1
 have HB := Aq.mk (Below.refl w.heap.size w)
 have H : (spec_l03Elements.l0 k l1 0 a0_0 a0_1) = some r := h
 clear h
 replace H' := Aq.mk H
 clear H
 go_enter Try.func69, Try.ntmps69
 go_wp2_with (first | ((with_reducible refine gQd (N := 2) rfl ?_); refine xQe ?hg (N := 2) ?hd (cs := #[.int .i64 a0_0, .int .i64 a0_1]) (t := 27) ?hr ?_; (case hd => rfl); (case hg => rfl); (case hr => exact tH); intro gb113 hg w3 hbox hb; refine qM4 (bQT tB hb) hbox (tZ w hg) (tZ w hg) ?_; clear HB; intro HB BK113 GW113 GE113; clear hb hbox hg))
 go_loopg [5] k (fun kq v5 w' => ∃ (x5_1 : Int), v5 = .int .i64 x5_1 ∧ Aq (spec_l03Elements.l0 kq l1 x5_1 a0_0 a0_1 = some r) ∧ Aq (kq ≤ k) ∧ Aq (w'.heap[gb113]? = some (.cells #[.int .i64 a0_0, .int .i64 a0_1] 27 (0, 0))) ∧ Aq (Below w.heap.size w w'))
 case atStart => exact ⟨(0), tS, H', ⟨Nat.le_refl _⟩, ⟨tG BK113.out⟩, ⟨tB⟩⟩
 clear H'
 try clear c1
 obtain ⟨x5_1, rfl, HA, HK1, BK113, HB⟩ := hrel
 cases gk with
 | zero => exact absurd HA.out (by simp [spec_l03Elements.l0])
 | succ k1 =>
  have H := HA.out
  clear HA
  simp only [spec_l03Elements.l0] at H
  by_cases c4 : x5_1 < (l1.length : Int)
  rotate_left
  ·rw [if_neg c4] at H
   have c4b0 := decide_eq_false c4
   clear c4
   obtain rfl := Option.some.inj H
   go_wp2
   go_ret
   exact ⟨tE, tB⟩
  rw [if_pos c4] at H
  have c4b0 := decide_eq_true c4
  clear c4
  by_cases c5 : 0 ≤ x5_1
  rotate_left
  ·rw [if_neg c5] at H
   exact absurd H (by simp)
  rw [if_pos c5] at H
  have c5b0 := decide_eq_true c5
  clear c5
  obtain ⟨t115, A6, H⟩ := qBd H
  obtain ⟨t116, A7, H⟩ := qBd H
  by_cases c8 : t116 = true
  ·subst c8
   rw [if_pos rfl] at H
   replace H' := Aq.mk H
   clear H
   try go_wp2
   have n0_ := Aq.mk (kQD BK113.out)
   have n1_ := Aq.mk (bQ1 HB.out)
   clear BK113
   clear HB
   have BK113 := n0_
   have HB := n1_
   clear n0_ n1_
   have p114 : 0 ≤ (x5_1 : Int) := of_decide_eq_true tA
   have q114 : x5_1 < (l1.length : Int) := of_decide_eq_true tA
   obtain ⟨ad114, e114, hx114_0⟩ := Kd.at_int HR1.out x5_1 p114 q114
   have hw114_0 := hx114_0
   cases e114
   replace hx114_0 := (HB.out.cell (World.block_lt_of_cell? w _ hx114_0)).trans hx114_0
   replace p114 := eq_true p114
   replace q114 := eq_true q114
   refine start_ (n := 9) (S := fun w' => w'.cell? ⟨gb113, 0, none⟩ = some (.int .i64 a0_0) ∧ w'.cell? ⟨gb113, 1, none⟩ = some (.int .i64 a0_1) ∧ w'.cell? (ad114.add (x5_1).toNat) = some (.int .i64 (rd l1 x5_1))) (ds := []) #[false, false, false, false, false, false, false, false, false] (by kernel_rfl) rfl rfl ⟨(kQC BK113.out 0).trans rfl, (kQC BK113.out 1).trans rfl, (tcw tB hw114_0)⟩ (fun hHeld => ?_); refine with_tabW spec_l03Elements.tab4 spec_l03Elements.bits4 (fun HT_ HW_ => ?_)
   generalize wr.drew = w9 at BK113 HB hx114_0 hHeld ⊢
   refine tP0 0 12 (bm 9 1) ?_
   refine tP0 1 13 (bm 9 3) ?_
   refine tP0 2 14 (bm 9 7) ?_
   refine tT3 3 15 (bm 9 15) ?_
   refine tT3 4 16 (bm 9 31) ?_
   refine one_ (i := 5) (N := some 17) (bm 9 63) rfl rfl (one_of HT_.out (by kernel_rfl)) (by decide) (fun K hK => ?_)
   refine goes_ Try.func59 (by kernel_rfl) rfl #[.agg #[.int .i64 a0_0, .int .i64 a0_1]] (by rfl) rfl rfl tL ?_
   with_reducible refine (spec_l01Size.calls a0_0 a0_1 t115 _ A6.out).mono ?_
   rintro e w10 ⟨rfl, hb⟩
   refine ⟨_, rfl, ?_⟩
   have n0_ := Aq.mk (tQ BK113.out hb)
   have n1_ := Aq.mk (bQT tB hb)
   clear BK113
   clear HB
   have BK113 := n0_
   have HB := n1_
   clear n0_ n1_
   (try clear hb)
   (try clear hb2)
   (try clear hk)
   (try clear hi)
   refine hK.out _ _ ⟨(kQC BK113.out 0).trans rfl, (kQC BK113.out 1).trans rfl, (tcw tB hw114_0)⟩ (fun hHeld => ?_)
   clear hK K
   refine tN 17 ?_
   refine tP0 6 18 (bm 9 127) ?_
   refine one_ (i := 7) (N := some 19) (bm 9 255) rfl rfl (one_of HT_.out (by kernel_rfl)) (by decide) (fun K hK => ?_)
   refine goes_ Try.func58 (by kernel_rfl) rfl #[.int .i64 (rd l1 x5_1), .int .i64 0, .int .i64 (wrap64 (t115 - 1))] (by rfl) rfl rfl tL ?_
   with_reducible refine (spec_l00In.calls (rd l1 x5_1) 0 (wrap64 (t115 - 1)) true _ A7.out).mono ?_
   rintro e w' ⟨rfl, ⟨nd, rfl⟩⟩
   refine ⟨_, rfl, ?_⟩
   refine hK.out _ _ ⟨(kQC BK113.out 0).trans rfl, (kQC BK113.out 1).trans rfl, (tcw tB hw114_0)⟩ (fun hHeld => ?_)
   clear hK K
   refine tN 19 ?_
   refine tP0 8 20 (bm 9 511) ?_
   refine done_ (done_of HT_.out (by kernel_rfl)) ?_
   try go_wp2
   go_roundg k1
   case measure => have := HK1.out; omega
   case rel => exact ⟨(wrap64 (x5_1 + 1)), tS, H', ⟨by have := HK1.out; omega⟩, ⟨tG BK113.out⟩, ⟨tB⟩⟩
  replace c8 := Bool.eq_false_iff.mpr c8
  subst c8
  rw [if_neg (show ¬ (false = true) by decide)] at H
  obtain rfl := Option.some.inj H
  try go_wp2
  have n0_ := Aq.mk (kQD BK113.out)
  have n1_ := Aq.mk (bQ1 HB.out)
  clear BK113
  clear HB
  have BK113 := n0_
  have HB := n1_
  clear n0_ n1_
  have p114 : 0 ≤ (x5_1 : Int) := of_decide_eq_true tA
  have q114 : x5_1 < (l1.length : Int) := of_decide_eq_true tA
  obtain ⟨ad114, e114, hx114_0⟩ := Kd.at_int HR1.out x5_1 p114 q114
  have hw114_0 := hx114_0
  cases e114
  replace hx114_0 := (HB.out.cell (World.block_lt_of_cell? w _ hx114_0)).trans hx114_0
  replace p114 := eq_true p114
  replace q114 := eq_true q114
  refine start_ (n := 9) (S := fun w' => w'.cell? ⟨gb113, 0, none⟩ = some (.int .i64 a0_0) ∧ w'.cell? ⟨gb113, 1, none⟩ = some (.int .i64 a0_1) ∧ w'.cell? (ad114.add (x5_1).toNat) = some (.int .i64 (rd l1 x5_1))) (ds := []) #[false, false, false, false, false, false, false, false, false] (by kernel_rfl) rfl rfl ⟨(kQC BK113.out 0).trans rfl, (kQC BK113.out 1).trans rfl, (tcw tB hw114_0)⟩ (fun hHeld => ?_); refine with_tabW spec_l03Elements.tab4 spec_l03Elements.bits4 (fun HT_ HW_ => ?_)
  generalize wr.drew = w11 at BK113 HB hx114_0 hHeld ⊢
  refine tP0 0 12 (bm 9 1) ?_
  refine tP0 1 13 (bm 9 3) ?_
  refine tP0 2 14 (bm 9 7) ?_
  refine tT3 3 15 (bm 9 15) ?_
  refine tT3 4 16 (bm 9 31) ?_
  refine one_ (i := 5) (N := some 17) (bm 9 63) rfl rfl (one_of HT_.out (by kernel_rfl)) (by decide) (fun K hK => ?_)
  refine goes_ Try.func59 (by kernel_rfl) rfl #[.agg #[.int .i64 a0_0, .int .i64 a0_1]] (by rfl) rfl rfl tL ?_
  with_reducible refine (spec_l01Size.calls a0_0 a0_1 t115 _ A6.out).mono ?_
  rintro e w12 ⟨rfl, hb⟩
  refine ⟨_, rfl, ?_⟩
  have n0_ := Aq.mk (tQ BK113.out hb)
  have n1_ := Aq.mk (bQT tB hb)
  clear BK113
  clear HB
  have BK113 := n0_
  have HB := n1_
  clear n0_ n1_
  (try clear hb)
  (try clear hb2)
  (try clear hk)
  (try clear hi)
  refine hK.out _ _ ⟨(kQC BK113.out 0).trans rfl, (kQC BK113.out 1).trans rfl, (tcw tB hw114_0)⟩ (fun hHeld => ?_)
  clear hK K
  refine tN 17 ?_
  refine tP0 6 18 (bm 9 127) ?_
  refine one_ (i := 7) (N := some 19) (bm 9 255) rfl rfl (one_of HT_.out (by kernel_rfl)) (by decide) (fun K hK => ?_)
  refine goes_ Try.func58 (by kernel_rfl) rfl #[.int .i64 (rd l1 x5_1), .int .i64 0, .int .i64 (wrap64 (t115 - 1))] (by rfl) rfl rfl tL ?_
  with_reducible refine (spec_l00In.calls (rd l1 x5_1) 0 (wrap64 (t115 - 1)) false _ A7.out).mono ?_
  rintro e w' ⟨rfl, ⟨nd, rfl⟩⟩
  refine ⟨_, rfl, ?_⟩
  refine hK.out _ _ ⟨(kQC BK113.out 0).trans rfl, (kQC BK113.out 1).trans rfl, (tcw tB hw114_0)⟩ (fun hHeld => ?_)
  clear hK K
  refine tN 19 ?_
  refine tP0 8 20 (bm 9 511) ?_
  refine done_ (done_of HT_.out (by kernel_rfl)) ?_
  try go_wp2
  go_ret
  exact ⟨tE, tB⟩
def spec_l03Ok.f (k : Nat) (a0_0 : Int) (a0_1 : Int) (l1 : List Int) : Option (Bool) := if (l1.length : Int) ≤ 12 then ((spec_l03Elements.f k a0_0 a0_1 l1).bind fun t118 => (if t118 = true then (if (l1.length : Int) = 0 then (some true) else (if 0 ≤ (wrap64 ((l1.length : Int) - 1)) then (if (wrap64 ((l1.length : Int) - 1)) < (l1.length : Int) then (some ((rd l1 (wrap64 ((l1.length : Int) - 1))) != 0)) else (none)) else (none))) else (some false))) else (some false)
theorem spec_l03Ok.mono : ∀ a0 a1 a2 k, LeO (spec_l03Ok.f k a0 a1 a2) (spec_l03Ok.f (k + 1) a0 a1 a2) := by
 intro a0 a1 a2 k
 unfold spec_l03Ok.f
 repeat' first
  | (with_reducible first | apply spec_l03Elements.mono | exact LeO.refl _ | exact LeO.none _ | refine LeO.ite ?_ ?_ | refine LeO.bind ?_ (fun _ => ?_))
  | exact LeO.none _
  | refine LeO.ite ?_ ?_
  | refine LeO.bind ?_ (fun _ => ?_)
theorem spec_l03Ok.calls (k : Nat) (a0_0 : Int) (a0_1 : Int) (A1 : Option Addr) (c1 : Nat) (l1 : List Int) (r : Bool) (w : World) (hr1 : Kd.C (Kd.int .i64) w A1 l1.length l1) (hc1 : l1.length ≤ c1) (h : spec_l03Ok.f k a0_0 a0_1 l1 = some r) :
 Calls Try.prog 49 #[.agg #[.int .i64 a0_0, .int .i64 a0_1], .slice A1 l1.length c1] w fun e w' => e = .returned (.bool r) ∧ Below w.heap.size w w' := by
 have hu27 := Try.underlying27
 have HR1 := Aq.mk hr1
 have HC1 := Aq.mk hc1
 clear hr1 hc1
 have HB := Aq.mk (Below.refl w.heap.size w)
 have H : (if (l1.length : Int) ≤ 12 then ((spec_l03Elements.f k a0_0 a0_1 l1).bind fun t118 => (if t118 = true then (if (l1.length : Int) = 0 then (some true) else (if 0 ≤ (wrap64 ((l1.length : Int) - 1)) then (if (wrap64 ((l1.length : Int) - 1)) < (l1.length : Int) then (some ((rd l1 (wrap64 ((l1.length : Int) - 1))) != 0)) else (none)) else (none))) else (some false))) else (some false)) = some r := h
 clear h
 by_cases c3 : (l1.length : Int) ≤ 12
 rotate_left
 ·rw [if_neg c3] at H
  have c3b0 := decide_eq_false c3
  have c3b1 : decide (l1.length ≤ 12) = false := decide_eq_false (by omega)
  clear c3
  obtain rfl := Option.some.inj H
  go_enter Try.func49, Try.ntmps49
  go_wp2_with (first | ((with_reducible refine gQd (N := 2) rfl ?_); (try (refine gate_guard (by rfl) ?_; dsimp only)); refine xQe ?hg (N := 2) ?hd (cs := #[.int .i64 a0_0, .int .i64 a0_1]) (t := 27) ?hr ?_; (case hd => rfl); (case hg => rfl); (case hr => exact tH); intro gb117 hg w19 hbox hb; refine qM4 (bQT tB hb) hbox (tZ w hg) (tZ w hg) ?_; clear HB; intro HB BK117 GW117 GE117; clear hb hbox hg))
  go_ret
  exact ⟨tE, tB⟩
 rw [if_pos c3] at H
 have c3b0 := decide_eq_true c3
 have c3b1 : decide (l1.length ≤ 12) = true := decide_eq_true (by omega)
 clear c3
 obtain ⟨t118, A4, H⟩ := qBd H
 by_cases c5 : t118 = true
 rotate_left
 ·replace c5 := Bool.eq_false_iff.mpr c5
  subst c5
  rw [if_neg (show ¬ (false = true) by decide)] at H
  obtain rfl := Option.some.inj H
  go_enter Try.func49, Try.ntmps49
  go_wp2_with (first | ((with_reducible refine gQd (N := 2) rfl ?_); (try (refine gate_guard (by rfl) ?_; dsimp only)); refine xQe ?hg (N := 2) ?hd (cs := #[.int .i64 a0_0, .int .i64 a0_1]) (t := 27) ?hr ?_; (case hd => rfl); (case hg => rfl); (case hr => exact tH); intro gb117 hg w16 hbox hb; refine qM4 (bQT tB hb) hbox (tZ w hg) (tZ w hg) ?_; clear HB; intro HB BK117 GW117 GE117; clear hb hbox hg; have hcz17_0 : w16.cell? ⟨gb117, 0, none⟩ = some (.int .i64 a0_0) := (kQC BK117.out 0).trans rfl; have hcz17_1 : w16.cell? ⟨gb117, 1, none⟩ = some (.int .i64 a0_1) := (kQC BK117.out 1).trans rfl; have hfz17_0 := kQF BK117.out 0; have hfz17_1 := kQF BK117.out 1) | (go_at_call 69; (with_reducible refine (spec_l03Elements.calls k a0_0 a0_1 _ _ l1 false _ ?s1 ?s2 A4.out).mono ?_); (case s1 => exact tC ((Kd.C_below HR1.out HB.out))); (case s2 => exact HC1.out); rintro e w18 ⟨rfl, hb⟩; refine qM2 (tQ BK117.out hb) (bQT tB hb) ?_; clear BK117 HB; intro BK117 HB; (try clear hb); (try clear hb2); (try clear hk); (try clear hi)))
  go_ret
  exact ⟨tE, tB⟩
 subst c5
 rw [if_pos rfl] at H
 by_cases c6 : (l1.length : Int) = 0
 ·rw [if_pos c6] at H
  have c6b0 := beq_iff_eq.mpr c6
  have c6b1 := bne_eq_false_iff_eq.mpr c6
  clear c6
  obtain rfl := Option.some.inj H
  go_enter Try.func49, Try.ntmps49
  go_wp2_with (first | ((with_reducible refine gQd (N := 2) rfl ?_); (try (refine gate_guard (by rfl) ?_; dsimp only)); refine xQe ?hg (N := 2) ?hd (cs := #[.int .i64 a0_0, .int .i64 a0_1]) (t := 27) ?hr ?_; (case hd => rfl); (case hg => rfl); (case hr => exact tH); intro gb117 hg w7 hbox hb; refine qM4 (bQT tB hb) hbox (tZ w hg) (tZ w hg) ?_; clear HB; intro HB BK117 GW117 GE117; clear hb hbox hg; have hcz8_0 : w7.cell? ⟨gb117, 0, none⟩ = some (.int .i64 a0_0) := (kQC BK117.out 0).trans rfl; have hcz8_1 : w7.cell? ⟨gb117, 1, none⟩ = some (.int .i64 a0_1) := (kQC BK117.out 1).trans rfl; have hfz8_0 := kQF BK117.out 0; have hfz8_1 := kQF BK117.out 1) | (go_at_call 69; (with_reducible refine (spec_l03Elements.calls k a0_0 a0_1 _ _ l1 true _ ?s1 ?s2 A4.out).mono ?_); (case s1 => exact tC ((Kd.C_below HR1.out HB.out))); (case s2 => exact HC1.out); rintro e w9 ⟨rfl, hb⟩; refine qM2 (tQ BK117.out hb) (bQT tB hb) ?_; clear BK117 HB; intro BK117 HB; (try clear hb); (try clear hb2); (try clear hk); (try clear hi)))
  go_ret
  exact ⟨tE, tB⟩
 rw [if_neg c6] at H
 have c6b0 := beq_eq_false_iff_ne.mpr c6
 have c6b1 := bne_iff_ne.mpr c6
 have c6b2 : ¬ (l1 = []) := fun h_ => c6 (by rw [h_]; rfl)
 obtain ⟨ji10, hji10⟩ : ∃ j_ : Int, (wrap64 ((l1.length : Int) - 1)) = j_ := ⟨_, rfl⟩
 first | rw [hji10] at H | simp only [hji10] at H | skip
 (try rw [hji10] at A4)
 have hji10w : (IntKind.i64.wrap ((l1.length : Int) - 1)) = ji10 := (i64_w _).trans hji10
 by_cases c11 : 0 ≤ (ji10)
 rotate_left
 ·rw [if_neg c11] at H
  exact absurd H (by simp)
 rw [if_pos c11] at H
 have c11b0 := decide_eq_true c11
 clear c11
 by_cases c12 : (ji10) < (l1.length : Int)
 rotate_left
 ·rw [if_neg c12] at H
  exact absurd H (by simp)
 rw [if_pos c12] at H
 have c12b0 := decide_eq_true c12
 clear c12
 obtain rfl := Option.some.inj H
 go_enter Try.func49, Try.ntmps49
 go_wp2_with (first | ((with_reducible refine gQd (N := 2) rfl ?_); (try (refine gate_guard (by rfl) ?_; dsimp only)); refine xQe ?hg (N := 2) ?hd (cs := #[.int .i64 a0_0, .int .i64 a0_1]) (t := 27) ?hr ?_; (case hd => rfl); (case hg => rfl); (case hr => exact tH); intro gb117 hg w13 hbox hb; refine qM4 (bQT tB hb) hbox (tZ w hg) (tZ w hg) ?_; clear HB; intro HB BK117 GW117 GE117; clear hb hbox hg; have hcz14_0 : w13.cell? ⟨gb117, 0, none⟩ = some (.int .i64 a0_0) := (kQC BK117.out 0).trans rfl; have hcz14_1 : w13.cell? ⟨gb117, 1, none⟩ = some (.int .i64 a0_1) := (kQC BK117.out 1).trans rfl; have hfz14_0 := kQF BK117.out 0; have hfz14_1 := kQF BK117.out 1) | (go_at_call 69; (with_reducible refine (spec_l03Elements.calls k a0_0 a0_1 _ _ l1 true _ ?s1 ?s2 A4.out).mono ?_); (case s1 => exact tC ((Kd.C_below HR1.out HB.out))); (case s2 => exact HC1.out); rintro e w15 ⟨rfl, hb⟩; refine qM2 (tQ BK117.out hb) (bQT tB hb) ?_; clear BK117 HB; intro BK117 HB; (try clear hb); (try clear hb2); (try clear hk); (try clear hi); have p119 : 0 ≤ ((ji10) : Int) := of_decide_eq_true tA; have q119 : (ji10) < (l1.length : Int) := of_decide_eq_true tA; obtain ⟨ad119, e119, hx119_0⟩ := Kd.at_int HR1.out (ji10) p119 q119; cases e119; replace hx119_0 := (HB.out.cell (World.block_lt_of_cell? w _ hx119_0)).trans hx119_0; replace p119 := eq_true p119; replace q119 := eq_true q119))
 go_ret
 exact ⟨by first | rfl | (simp [errW_none, errW_some] <;> rfl) | (simp only [← hji10]; first | rfl | (simp [errW_none, errW_some] <;> rfl)) | (simp [*, errW_none, errW_some] <;> rfl), tB⟩
def spec_ValidLinear.f (k : Nat) (a0_0 : Int) (a0_1 : Int) (l1 : List Int) : Option (Bool) := (spec_l01Ok.f k a0_0 a0_1).bind fun t121 => (if t121 = true then ((spec_l03Ok.f k a0_0 a0_1 l1).bind fun t122 => (some t122)) else (some false))
theorem spec_ValidLinear.mono : ∀ a0 a1 a2 k, LeO (spec_ValidLinear.f k a0 a1 a2) (spec_ValidLinear.f (k + 1) a0 a1 a2) := by
 intro a0 a1 a2 k
 unfold spec_ValidLinear.f
 repeat' first
  | (with_reducible first | apply spec_l01Ok.mono | apply spec_l03Ok.mono | exact LeO.refl _ | exact LeO.none _ | refine LeO.ite ?_ ?_ | refine LeO.bind ?_ (fun _ => ?_))
  | exact LeO.none _
  | refine LeO.ite ?_ ?_
  | refine LeO.bind ?_ (fun _ => ?_)
theorem spec_ValidLinear.calls (k : Nat) (a0_0 : Int) (a0_1 : Int) (A1 : Option Addr) (c1 : Nat) (l1 : List Int) (r : Bool) (w : World) (hr1 : Kd.C (Kd.int .i64) w A1 l1.length l1) (hc1 : l1.length ≤ c1) (h : spec_ValidLinear.f k a0_0 a0_1 l1 = some r) :
 Calls Try.prog 24 #[.agg #[.int .i64 a0_0, .int .i64 a0_1], .slice A1 l1.length c1] w fun e w' => e = .returned (.bool r) ∧ Below w.heap.size w w' := by
 have hu27 := Try.underlying27
 have HR1 := Aq.mk hr1
 have HC1 := Aq.mk hc1
 clear hr1 hc1
 have HB := Aq.mk (Below.refl w.heap.size w)
 have H : ((spec_l01Ok.f k a0_0 a0_1).bind fun t121 => (if t121 = true then ((spec_l03Ok.f k a0_0 a0_1 l1).bind fun t122 => (some t122)) else (some false))) = some r := h
 clear h
 obtain ⟨t121, A3, H⟩ := qBd H
 by_cases c4 : t121 = true
 ·subst c4
  rw [if_pos rfl] at H
  obtain ⟨t122, A5, H⟩ := qBd H
  obtain rfl := Option.some.inj H
  go_enter Try.func24, Try.ntmps24
  go_wp2_with (first | ((with_reducible refine gQd (N := 2) rfl ?_); refine xQe ?hg (N := 2) ?hd (cs := #[.int .i64 a0_0, .int .i64 a0_1]) (t := 27) ?hr ?_; (case hd => rfl); (case hg => rfl); (case hr => exact tH); intro gb120 hg w6 hbox hb; refine qM4 (bQT tB hb) hbox (tZ w hg) (tZ w hg) ?_; clear HB; intro HB BK120 GW120 GE120; clear hb hbox hg; have hcz7_0 : w6.cell? ⟨gb120, 0, none⟩ = some (.int .i64 a0_0) := (kQC BK120.out 0).trans rfl; have hcz7_1 : w6.cell? ⟨gb120, 1, none⟩ = some (.int .i64 a0_1) := (kQC BK120.out 1).trans rfl; have hfz7_0 := kQF BK120.out 0; have hfz7_1 := kQF BK120.out 1) | ((with_reducible refine gQc (f := 48) rfl ?_); refine goesL_ (some 6) rfl rfl Try.func48 (by kernel_rfl) rfl #[.agg #[.int .i64 a0_0, .int .i64 a0_1]] rfl tL ?_; (with_reducible refine (spec_l01Ok.calls k a0_0 a0_1 true _ A3.out).mono ?_); rintro e w8 ⟨rfl, hb⟩; refine ⟨_, rfl, ?_⟩; refine qM2 (tQ BK120.out hb) (bQT tB hb) ?_; clear BK120 HB; intro BK120 HB; (try clear hb); (try clear hb2); (try clear hk); (try clear hi); have hcz9_0 : w8.cell? ⟨gb120, 0, none⟩ = some (.int .i64 a0_0) := (kQC BK120.out 0).trans rfl; have hcz9_1 : w8.cell? ⟨gb120, 1, none⟩ = some (.int .i64 a0_1) := (kQC BK120.out 1).trans rfl; have hfz9_0 := kQF BK120.out 0; have hfz9_1 := kQF BK120.out 1) | (go_at_call 49; (with_reducible refine (spec_l03Ok.calls k a0_0 a0_1 _ _ l1 t122 _ ?s1 ?s2 A5.out).mono ?_); (case s1 => exact tC ((Kd.C_below HR1.out HB.out))); (case s2 => exact HC1.out); rintro e w10 ⟨rfl, hb⟩; refine qM2 (tQ BK120.out hb) (bQT tB hb) ?_; clear BK120 HB; intro BK120 HB; (try clear hb); (try clear hb2); (try clear hk); (try clear hi)))
  go_ret
  exact ⟨tE, tB⟩
 replace c4 := Bool.eq_false_iff.mpr c4
 subst c4
 rw [if_neg (show ¬ (false = true) by decide)] at H
 obtain rfl := Option.some.inj H
 go_enter Try.func24, Try.ntmps24
 go_wp2_with (first | ((with_reducible refine gQd (N := 2) rfl ?_); refine xQe ?hg (N := 2) ?hd (cs := #[.int .i64 a0_0, .int .i64 a0_1]) (t := 27) ?hr ?_; (case hd => rfl); (case hg => rfl); (case hr => exact tH); intro gb120 hg w11 hbox hb; refine qM4 (bQT tB hb) hbox (tZ w hg) (tZ w hg) ?_; clear HB; intro HB BK120 GW120 GE120; clear hb hbox hg; have hcz12_0 : w11.cell? ⟨gb120, 0, none⟩ = some (.int .i64 a0_0) := (kQC BK120.out 0).trans rfl; have hcz12_1 : w11.cell? ⟨gb120, 1, none⟩ = some (.int .i64 a0_1) := (kQC BK120.out 1).trans rfl; have hfz12_0 := kQF BK120.out 0; have hfz12_1 := kQF BK120.out 1) | ((with_reducible refine gQc (f := 48) rfl ?_); refine goesL_ (some 6) rfl rfl Try.func48 (by kernel_rfl) rfl #[.agg #[.int .i64 a0_0, .int .i64 a0_1]] rfl tL ?_; (with_reducible refine (spec_l01Ok.calls k a0_0 a0_1 false _ A3.out).mono ?_); rintro e w13 ⟨rfl, hb⟩; refine ⟨_, rfl, ?_⟩; refine qM2 (tQ BK120.out hb) (bQT tB hb) ?_; clear BK120 HB; intro BK120 HB; (try clear hb); (try clear hb2); (try clear hk); (try clear hi)))
 go_ret
 exact ⟨tE, tB⟩
def impl_Field_isLinear.f (k : Nat) (a0_0 : Int) (a0_1 : Int) (l1 : List Int) : Option (Bool) := if (l1.length : Int) ≤ 12 then ((impl_Field_has.f k a0_0 a0_1 l1).bind fun t197 => (if t197 = true then (if (l1.length : Int) = 0 then (some true) else (if 0 ≤ (wrap64 ((l1.length : Int) - 1)) then (if (wrap64 ((l1.length : Int) - 1)) < (l1.length : Int) then (some ((rd l1 (wrap64 ((l1.length : Int) - 1))) != 0)) else (none)) else (none))) else (some false))) else (some false)
theorem impl_Field_isLinear.mono : ∀ a0 a1 a2 k, LeO (impl_Field_isLinear.f k a0 a1 a2) (impl_Field_isLinear.f (k + 1) a0 a1 a2) := by
 intro a0 a1 a2 k
 unfold impl_Field_isLinear.f
 repeat' first
  | (with_reducible first | apply impl_Field_has.mono | exact LeO.refl _ | exact LeO.none _ | refine LeO.ite ?_ ?_ | refine LeO.bind ?_ (fun _ => ?_))
  | exact LeO.none _
  | refine LeO.ite ?_ ?_
  | refine LeO.bind ?_ (fun _ => ?_)
theorem impl_Field_isLinear.calls (k : Nat) (a0_0 : Int) (a0_1 : Int) (A1 : Option Addr) (c1 : Nat) (l1 : List Int) (r : Bool) (w : World) (hr1 : Kd.C (Kd.int .i64) w A1 l1.length l1) (hc1 : l1.length ≤ c1) (h : impl_Field_isLinear.f k a0_0 a0_1 l1 = some r) :
 Calls Try.prog 55 #[.agg #[.int .i64 a0_0, .int .i64 a0_1], .slice A1 l1.length c1] w fun e w' => e = .returned (.bool r) ∧ Below w.heap.size w w' := by
 have hu27 := Try.underlying27
 have HR1 := Aq.mk hr1
 have HC1 := Aq.mk hc1
 clear hr1 hc1
 have HB := Aq.mk (Below.refl w.heap.size w)
 have H : (if (l1.length : Int) ≤ 12 then ((impl_Field_has.f k a0_0 a0_1 l1).bind fun t197 => (if t197 = true then (if (l1.length : Int) = 0 then (some true) else (if 0 ≤ (wrap64 ((l1.length : Int) - 1)) then (if (wrap64 ((l1.length : Int) - 1)) < (l1.length : Int) then (some ((rd l1 (wrap64 ((l1.length : Int) - 1))) != 0)) else (none)) else (none))) else (some false))) else (some false)) = some r := h
 clear h
 by_cases c3 : (l1.length : Int) ≤ 12
 rotate_left
 ·rw [if_neg c3] at H
  have c3b0 := decide_eq_false c3
  have c3b1 : decide (l1.length ≤ 12) = false := decide_eq_false (by omega)
  clear c3
  obtain rfl := Option.some.inj H
  go_enter Try.func55, Try.ntmps55
  go_wp2_with (first | ((with_reducible refine gQd (N := 2) rfl ?_); (try (refine gate_guard (by rfl) ?_; dsimp only)); refine xQe ?hg (N := 2) ?hd (cs := #[.int .i64 a0_0, .int .i64 a0_1]) (t := 27) ?hr ?_; (case hd => rfl); (case hg => rfl); (case hr => exact tH); intro gb196 hg w19 hbox hb; refine qM4 (bQT tB hb) hbox (tZ w hg) (tZ w hg) ?_; clear HB; intro HB BK196 GW196 GE196; clear hb hbox hg))
  go_ret
  exact ⟨tE, tB⟩
 rw [if_pos c3] at H
 have c3b0 := decide_eq_true c3
 have c3b1 : decide (l1.length ≤ 12) = true := decide_eq_true (by omega)
 clear c3
 obtain ⟨t197, A4, H⟩ := qBd H
 by_cases c5 : t197 = true
 rotate_left
 ·replace c5 := Bool.eq_false_iff.mpr c5
  subst c5
  rw [if_neg (show ¬ (false = true) by decide)] at H
  obtain rfl := Option.some.inj H
  go_enter Try.func55, Try.ntmps55
  go_wp2_with (first | ((with_reducible refine gQd (N := 2) rfl ?_); (try (refine gate_guard (by rfl) ?_; dsimp only)); refine xQe ?hg (N := 2) ?hd (cs := #[.int .i64 a0_0, .int .i64 a0_1]) (t := 27) ?hr ?_; (case hd => rfl); (case hg => rfl); (case hr => exact tH); intro gb196 hg w16 hbox hb; refine qM4 (bQT tB hb) hbox (tZ w hg) (tZ w hg) ?_; clear HB; intro HB BK196 GW196 GE196; clear hb hbox hg; have hcz17_0 : w16.cell? ⟨gb196, 0, none⟩ = some (.int .i64 a0_0) := (kQC BK196.out 0).trans rfl; have hcz17_1 : w16.cell? ⟨gb196, 1, none⟩ = some (.int .i64 a0_1) := (kQC BK196.out 1).trans rfl; have hfz17_0 := kQF BK196.out 0; have hfz17_1 := kQF BK196.out 1) | (go_at_call 61; (with_reducible refine (impl_Field_has.calls k a0_0 a0_1 _ _ l1 false _ ?s1 ?s2 A4.out).mono ?_); (case s1 => exact tC ((Kd.C_below HR1.out HB.out))); (case s2 => exact HC1.out); rintro e w18 ⟨rfl, hb⟩; refine qM2 (tQ BK196.out hb) (bQT tB hb) ?_; clear BK196 HB; intro BK196 HB; (try clear hb); (try clear hb2); (try clear hk); (try clear hi)))
  go_ret
  exact ⟨tE, tB⟩
 subst c5
 rw [if_pos rfl] at H
 by_cases c6 : (l1.length : Int) = 0
 ·rw [if_pos c6] at H
  have c6b0 := beq_iff_eq.mpr c6
  have c6b1 := bne_eq_false_iff_eq.mpr c6
  clear c6
  obtain rfl := Option.some.inj H
  go_enter Try.func55, Try.ntmps55
  go_wp2_with (first | ((with_reducible refine gQd (N := 2) rfl ?_); (try (refine gate_guard (by rfl) ?_; dsimp only)); refine xQe ?hg (N := 2) ?hd (cs := #[.int .i64 a0_0, .int .i64 a0_1]) (t := 27) ?hr ?_; (case hd => rfl); (case hg => rfl); (case hr => exact tH); intro gb196 hg w7 hbox hb; refine qM4 (bQT tB hb) hbox (tZ w hg) (tZ w hg) ?_; clear HB; intro HB BK196 GW196 GE196; clear hb hbox hg; have hcz8_0 : w7.cell? ⟨gb196, 0, none⟩ = some (.int .i64 a0_0) := (kQC BK196.out 0).trans rfl; have hcz8_1 : w7.cell? ⟨gb196, 1, none⟩ = some (.int .i64 a0_1) := (kQC BK196.out 1).trans rfl; have hfz8_0 := kQF BK196.out 0; have hfz8_1 := kQF BK196.out 1) | (go_at_call 61; (with_reducible refine (impl_Field_has.calls k a0_0 a0_1 _ _ l1 true _ ?s1 ?s2 A4.out).mono ?_); (case s1 => exact tC ((Kd.C_below HR1.out HB.out))); (case s2 => exact HC1.out); rintro e w9 ⟨rfl, hb⟩; refine qM2 (tQ BK196.out hb) (bQT tB hb) ?_; clear BK196 HB; intro BK196 HB; (try clear hb); (try clear hb2); (try clear hk); (try clear hi)))
  go_ret
  exact ⟨tE, tB⟩
 rw [if_neg c6] at H
 have c6b0 := beq_eq_false_iff_ne.mpr c6
 have c6b1 := bne_iff_ne.mpr c6
 have c6b2 : ¬ (l1 = []) := fun h_ => c6 (by rw [h_]; rfl)
 obtain ⟨ji10, hji10⟩ : ∃ j_ : Int, (wrap64 ((l1.length : Int) - 1)) = j_ := ⟨_, rfl⟩
 first | rw [hji10] at H | simp only [hji10] at H | skip
 (try rw [hji10] at A4)
 have hji10w : (IntKind.i64.wrap ((l1.length : Int) - 1)) = ji10 := (i64_w _).trans hji10
 by_cases c11 : 0 ≤ (ji10)
 rotate_left
 ·rw [if_neg c11] at H
  exact absurd H (by simp)
 rw [if_pos c11] at H
 have c11b0 := decide_eq_true c11
 clear c11
 by_cases c12 : (ji10) < (l1.length : Int)
 rotate_left
 ·rw [if_neg c12] at H
  exact absurd H (by simp)
 rw [if_pos c12] at H
 have c12b0 := decide_eq_true c12
 clear c12
 obtain rfl := Option.some.inj H
 go_enter Try.func55, Try.ntmps55
 go_wp2_with (first | ((with_reducible refine gQd (N := 2) rfl ?_); (try (refine gate_guard (by rfl) ?_; dsimp only)); refine xQe ?hg (N := 2) ?hd (cs := #[.int .i64 a0_0, .int .i64 a0_1]) (t := 27) ?hr ?_; (case hd => rfl); (case hg => rfl); (case hr => exact tH); intro gb196 hg w13 hbox hb; refine qM4 (bQT tB hb) hbox (tZ w hg) (tZ w hg) ?_; clear HB; intro HB BK196 GW196 GE196; clear hb hbox hg; have hcz14_0 : w13.cell? ⟨gb196, 0, none⟩ = some (.int .i64 a0_0) := (kQC BK196.out 0).trans rfl; have hcz14_1 : w13.cell? ⟨gb196, 1, none⟩ = some (.int .i64 a0_1) := (kQC BK196.out 1).trans rfl; have hfz14_0 := kQF BK196.out 0; have hfz14_1 := kQF BK196.out 1) | (go_at_call 61; (with_reducible refine (impl_Field_has.calls k a0_0 a0_1 _ _ l1 true _ ?s1 ?s2 A4.out).mono ?_); (case s1 => exact tC ((Kd.C_below HR1.out HB.out))); (case s2 => exact HC1.out); rintro e w15 ⟨rfl, hb⟩; refine qM2 (tQ BK196.out hb) (bQT tB hb) ?_; clear BK196 HB; intro BK196 HB; (try clear hb); (try clear hb2); (try clear hk); (try clear hi); have p198 : 0 ≤ ((ji10) : Int) := of_decide_eq_true tA; have q198 : (ji10) < (l1.length : Int) := of_decide_eq_true tA; obtain ⟨ad198, e198, hx198_0⟩ := Kd.at_int HR1.out (ji10) p198 q198; cases e198; replace hx198_0 := (HB.out.cell (World.block_lt_of_cell? w _ hx198_0)).trans hx198_0; replace p198 := eq_true p198; replace q198 := eq_true q198))
 go_ret
 exact ⟨by first | rfl | (simp [errW_none, errW_some] <;> rfl) | (simp only [← hji10]; first | rfl | (simp [errW_none, errW_some] <;> rfl)) | (simp [*, errW_none, errW_some] <;> rfl), tB⟩
def impl_Field_linearCode_1.f (k : Nat) (l0 : List Int) (a1_0 : Int) (a1_1 : Int) : Option (Bool) := (impl_Field_isLinear.f k a1_0 a1_1 l0).bind fun t199 => (some (!t199))
theorem impl_Field_linearCode_1.mono : ∀ a0 a1 a2 k, LeO (impl_Field_linearCode_1.f k a0 a1 a2) (impl_Field_linearCode_1.f (k + 1) a0 a1 a2) := by
 intro a0 a1 a2 k
 unfold impl_Field_linearCode_1.f
 repeat' first
  | (with_reducible first | apply impl_Field_isLinear.mono | exact LeO.refl _ | exact LeO.none _ | refine LeO.ite ?_ ?_ | refine LeO.bind ?_ (fun _ => ?_))
  | exact LeO.none _
  | refine LeO.ite ?_ ?_
  | refine LeO.bind ?_ (fun _ => ?_)
theorem impl_Field_linearCode_1.calls (k : Nat) (A0 : Option Addr) (c0 : Nat) (l0 : List Int) (g1_0 : Addr) (a1_0 : Int) (a1_1 : Int) (r : Bool) (w : World) (hr0 : Kd.C (Kd.int .i64) w A0 l0.length l0) (hc0 : l0.length ≤ c0) (hb1_0 : AtC w g1_0 [.int .i64 a1_0, .int .i64 a1_1]) (h : impl_Field_linearCode_1.f k l0 a1_0 a1_1 = some r) :
 Calls Try.prog 54 #[.slice A0 l0.length c0, .pointer (some g1_0)] w fun e w' => e = .returned (.bool r) ∧ Below w.heap.size w w' := by
 have hu27 := Try.underlying27
 have HR0 := Aq.mk hr0
 have HC0 := Aq.mk hc0
 clear hr0 hc0
 have BK48 := Aq.mk hb1_0
 clear hb1_0
 have HB := Aq.mk (Below.refl w.heap.size w)
 have H : ((impl_Field_isLinear.f k a1_0 a1_1 l0).bind fun t199 => (some (!t199))) = some r := h
 clear h
 obtain ⟨t199, A3, H⟩ := qBd H
 obtain rfl := Option.some.inj H
 have hcz4_0 : w.cell? g1_0 = some (.int .i64 a1_0) := AtC.cell0 BK48.out _ rfl
 have hcz4_1 : w.cell? ⟨g1_0.block, g1_0.off + 1, none⟩ = some (.int .i64 a1_1) := AtC.cell BK48.out 1 _ (by decide) rfl
 go_enter Try.func54, Try.ntmps54
 go_wp2_with (first | ((with_reducible refine gQc (f := 55) rfl ?_); refine goesL_ (some 6) rfl rfl Try.func55 (by kernel_rfl) rfl #[.agg #[.int .i64 a1_0, .int .i64 a1_1], .slice A0 l0.length c0] rfl tL ?_; (with_reducible refine (impl_Field_isLinear.calls k a1_0 a1_1 _ _ l0 t199 _ ?s1 ?s2 A3.out).mono ?_); (case s1 => exact tC HR0.out); (case s2 => exact HC0.out); rintro e w5 ⟨rfl, hb⟩; refine ⟨_, rfl, ?_⟩; refine qM1 (bQT tB hb) ?_; clear HB; intro HB; (try clear hb); (try clear hb2); (try clear hk); (try clear hi)))
 go_ret
 exact ⟨tE, tB⟩
end Go.Proofs.Ytpigghpimgkilaa.P
