/- Functions of the program and what they tell, as the printing program wrote it. -/
import Derived.Test.YtkhjoomjjdgkjaaPx0
import Derived.Test.YtkhjoomjjdgkjaaPx1
import Derived.Test.YtkhjoomjjdgkjaaPx4
import Derived.Test.YtkhjoomjjdgkjaaPx5
import Derived.Test.YtkhjoomjjdgkjaaPx18
import Derived.Test.YtkhjoomjjdgkjaaPx19
namespace Go.Proofs.Ytkhjoomjjdgkjaa.P
open Go.Shelf Go.RowKit Go.Proofs.YtkhjoomjjdgkjaaW.PrintWords Go.Proofs.YtkhjoomjjdgkjaaW.PrintLast Go.Proofs.YtkhjoomjjdgkjaaW.PrintMore
attribute [local go_sem] max2_int min2_int max_two min_two max_three min_three max_four min_four
set_option linter.unusedVariables false
set_option linter.unusedSimpArgs false
set_option maxHeartbeats 8000000
set_option maxRecDepth 100000
def spec_A2Element.l0 : Nat → Int → Int → Int → Int → Int → List Int → Int → Int → Option (Int)
  | 0, _, _, _, _, _, _, _, _ => none
  | k + 1, x2, x8, x9, x827000, x827001, x831000, x831001, x831002 => if x9 ≤ x2 then ((spec_l01Size.f x827000 x827001).bind fun t831 => ((spec_l00Src_pick.f x831000 x831001 x831002 t831).bind fun bt832 => (spec_A2Element.l0 k x2 bt832.1 (wrap64 (x9 + 1)) x827000 x827001 x831000 bt832.2.1 bt832.2.2))) else (some x8)
def spec_A2Element.f (k : Nat) (l0 : List Int) (a1_0 : Int) (a1_1 : Int) (a2 : Int) : Option (Int) := (spec_l00From.f l0).bind fun bt827 => (spec_A2Element.l0 k a2 0 0 a1_0 a1_1 bt827.1 bt827.2.1 bt827.2.2)
theorem spec_A2Element.mono_l : ∀ k, (∀ y0 y1 y2 y3 y4 y5 y6 y7, LeO (spec_A2Element.l0 k y0 y1 y2 y3 y4 y5 y6 y7) (spec_A2Element.l0 (k + 1) y0 y1 y2 y3 y4 y5 y6 y7))
 | 0 => fun _ _ _ _ _ _ _ _ r h => by simp [spec_A2Element.l0] at h
 | k + 1 => by
  have ih0 := spec_A2Element.mono_l k
  ·intro y0 y1 y2 y3 y4 y5 y6 y7
   unfold spec_A2Element.l0
   repeat' first
   | (with_reducible first | apply ih0 | exact LeO.refl _ | exact LeO.none _ | refine LeO.ite ?_ ?_ | refine LeO.bind ?_ (fun _ => ?_))
   | exact LeO.none _
   | refine LeO.ite ?_ ?_
   | refine LeO.bind ?_ (fun _ => ?_)
theorem spec_A2Element.mono : ∀ a0 a1 a2 a3 k, LeO (spec_A2Element.f k a0 a1 a2 a3) (spec_A2Element.f (k + 1) a0 a1 a2 a3) := by
 intro a0 a1 a2 a3 k
 have ih0 := spec_A2Element.mono_l k
 unfold spec_A2Element.f
 repeat' first
  | (with_reducible first | apply ih0 | exact LeO.refl _ | exact LeO.none _ | refine LeO.ite ?_ ?_ | refine LeO.bind ?_ (fun _ => ?_))
  | exact LeO.none _
  | refine LeO.ite ?_ ?_
  | refine LeO.bind ?_ (fun _ => ?_)
theorem spec_A2Element.calls (k : Nat) (A0 : Option Addr) (c0 : Nat) (l0 : List Int) (a1_0 : Int) (a1_1 : Int) (a2 : Int) (r : Int) (w : World) (hr0 : Kd.C (Kd.int .u8) w A0 l0.length l0) (hc0 : l0.length ≤ c0) (h : spec_A2Element.f k l0 a1_0 a1_1 a2 = some r) :
 Calls Try.prog 26 #[.slice A0 l0.length c0, .agg #[.int .i64 a1_0, .int .i64 a1_1], .int .i64 a2] w fun e w' => e = .returned (.int .i64 r) ∧ Below w.heap.size w w' := by
 have hu27 := Try.underlying27
 have HR0 := Aq.mk hr0
 have HC0 := Aq.mk hc0
 clear hr0 hc0
 have HB := Aq.mk (Below.refl w.heap.size w)
 have H : ((spec_l00From.f l0).bind fun bt827 => (spec_A2Element.l0 k a2 0 0 a1_0 a1_1 bt827.1 bt827.2.1 bt827.2.2)) = some r := h
 clear h
 obtain ⟨⟨t827, t828, t829⟩, A4, H⟩ := qBd H
 (try dsimp only at H)
 replace H' := Aq.mk H
 clear H
 go_enter Try.func26, Try.ntmps26
 go_wp2_with (first | ((with_reducible refine gQd (N := 4) rfl ?_); refine xQe ?hg (N := 4) ?hd (cs := #[.int .i64 a1_0, .int .i64 a1_1]) (t := 27) ?hr ?_; (case hd => rfl); (case hg => rfl); (case hr => exact tH); intro gb826 hg w5 hbox hb; refine qM4 (bQT tB hb) hbox (tZ w hg) (tZ w hg) ?_; clear HB; intro HB BK826 GW826 GE826; clear hb hbox hg) | ((with_reducible refine gQc (f := 37) rfl ?_); refine goesL_ (some 11) rfl rfl Try.func37 (by kernel_rfl) rfl #[.slice A0 l0.length c0] rfl tL ?_; (with_reducible refine (spec_l00From.calls _ _ l0 t827 t828 t829 w _ ?s1 ?s2 ?s3 A4.out).mono ?_); (case s1 => exact tB); (case s2 => exact HR0.out); (case s3 => exact HC0.out); rintro e w6 ⟨g830, rfl, hi, hb, hb2⟩; refine ⟨_, rfl, ?_⟩; refine qM5 (kQB (g := gb826) (o := .cells #[.int .i64 a1_0, .int .i64 a1_1] 27 (0, 0)) (tG BK826.out) hb2) hb hi (IsS76.ne_blk hi (kQB (g := gb826) (o := .cells #[.int .i64 a1_0, .int .i64 a1_1] 27 (0, 0)) (tG BK826.out) hb2) (by decide)) (Ne.symm (IsS76.ne_blk hi (kQB (g := gb826) (o := .cells #[.int .i64 a1_0, .int .i64 a1_1] 27 (0, 0)) (tG BK826.out) hb2) (by decide))) ?_; clear BK826 HB; intro BK826 HB HI830 NB830_826 NB826_830; (try clear hb); (try clear hb2); (try clear hk); (try clear hi)))
 go_loopg [8, 9] k (fun kq v8 v9 w' => ∃ (x8_1 : Int) (x9_1 : Int) (x831001_1 : Int) (x831002_1 : Int), v8 = .int .i64 x8_1 ∧ v9 = .int .i64 x9_1 ∧ Aq (spec_A2Element.l0 kq a2 x8_1 x9_1 a1_0 a1_1 t827 x831001_1 x831002_1 = some r) ∧ Aq (kq ≤ k) ∧ Aq (w'.heap[gb826]? = some (.cells #[.int .i64 a1_0, .int .i64 a1_1] 27 (0, 0))) ∧ Aq (IsS76 w w' g830 t827 x831001_1 x831002_1) ∧ Aq (Below w.heap.size w w'))
 case atStart => exact ⟨(0), (0), (t828), (t829), tS, tS, H', ⟨Nat.le_refl _⟩, ⟨tG BK826.out⟩, ⟨by repeat (first | (with_reducible first | exact HI830.out | apply IsS76.alloc | apply IsS76.drewN | apply IsS76.drew | apply IsS76.set_1 | apply IsS76.set_2 | refine IsS76.far ?_ NB830_826.out _) | exact HI830.out)⟩, ⟨by repeat (first | (with_reducible first | exact HB.out | apply bQA | apply bQN | apply bQ1 | refine bQS ?_ (IsS76.ge HI830.out) | refine bQS ?_ GE826.out) | exact HB.out)⟩⟩
 clear H'
 obtain ⟨x8_1, x9_1, x831001_1, x831002_1, rfl, rfl, HA, HK1, BK826, HI830, HB⟩ := hrel
 cases gk with
 | zero => exact absurd HA.out (by simp [spec_A2Element.l0])
 | succ k1 =>
  have H := HA.out
  clear HA
  simp only [spec_A2Element.l0] at H
  by_cases c7 : x9_1 ≤ a2
  rotate_left
  ·rw [if_neg c7] at H
   have c7b0 := decide_eq_false c7
   clear c7
   obtain rfl := Option.some.inj H
   go_wp2
   go_ret
   exact ⟨tE, by repeat (first | (with_reducible first | exact HB.out | apply bQA | apply bQN | apply bQ1 | refine bQS ?_ (IsS76.ge HI830.out) | refine bQS ?_ GE826.out) | exact HB.out)⟩
  rw [if_pos c7] at H
  have c7b0 := decide_eq_true c7
  clear c7
  obtain ⟨t831, A8, H⟩ := qBd H
  obtain ⟨⟨t832, t833, t834⟩, A9, H⟩ := qBd H
  (try dsimp only at H)
  replace H' := Aq.mk H
  clear H
  have hnb10 := NB826_830.out
  have hnc10 := NB830_826.out
  have hcz11_0 : wr.cell? ⟨gb826, 0, none⟩ = some (.int .i64 a1_0) := (kQC BK826.out 0).trans rfl
  have hcz11_1 : wr.cell? ⟨gb826, 1, none⟩ = some (.int .i64 a1_1) := (kQC BK826.out 1).trans rfl
  have hfz11_0 := kQF BK826.out 0
  have hfz11_1 := kQF BK826.out 1
  go_wp2_with (first | ((with_reducible refine gQc (f := 49) rfl ?_); refine goesL_ (some 19) rfl rfl Try.func49 (by kernel_rfl) rfl #[.agg #[.int .i64 a1_0, .int .i64 a1_1]] rfl tL ?_; (with_reducible refine (spec_l01Size.calls a1_0 a1_1 t831 _ A8.out).mono ?_); rintro e w12 ⟨rfl, hb⟩; refine ⟨_, rfl, ?_⟩; refine qM3 (tQ BK826.out hb) (IsS76.below (by repeat (first | (with_reducible first | exact HI830.out | apply IsS76.alloc | apply IsS76.drewN | apply IsS76.drew | apply IsS76.set_1 | apply IsS76.set_2 | refine IsS76.far ?_ NB830_826.out _) | exact HI830.out)) hb) (bQT (by repeat (first | (with_reducible first | exact HB.out | apply bQA | apply bQN | apply bQ1 | refine bQS ?_ (IsS76.ge HI830.out) | refine bQS ?_ GE826.out) | exact HB.out)) hb) ?_; clear BK826 HI830 HB; intro BK826 HI830 HB; (try clear hb); (try clear hb2); (try clear hk); (try clear hi)) | ((with_reducible refine gQc (f := 48) rfl ?_); refine goesL_ (some 20) rfl rfl Try.func48 (by kernel_rfl) rfl #[.pointer (some ⟨g830, 0, none⟩), .int .i64 t831] rfl tL ?_; (with_reducible refine (spec_l00Src_pick.calls g830 t827 x831001_1 x831002_1 t831 t832 t833 t834 w _ ?s1 ?s2 A9.out).mono ?_); (case s1 => repeat (first | (with_reducible first | exact HI830.out | apply IsS76.alloc | apply IsS76.drewN | apply IsS76.drew | apply IsS76.set_1 | apply IsS76.set_2 | refine IsS76.far ?_ NB830_826.out _) | exact HI830.out)); (case s2 => repeat (first | (with_reducible first | exact HB.out | apply bQA | apply bQN | apply bQ1 | refine bQS ?_ (IsS76.ge HI830.out) | refine bQS ?_ GE826.out) | exact HB.out)); rintro e w13 ⟨rfl, hi, hb, hk⟩; refine ⟨_, rfl, ?_⟩; refine qM3 (KeepBut.blk hk (g' := gb826) (o := .cells #[.int .i64 a1_0, .int .i64 a1_1] 27 (0, 0)) (tG BK826.out) NB826_830.out (by simp)) hb hi ?_; clear BK826 HB HI830; intro BK826 HB HI830; (try clear hb); (try clear hb2); (try clear hk); (try clear hi)))
  go_roundg k1
  case measure => have := HK1.out; omega
  case rel => exact ⟨(t832), (wrap64 (x9_1 + 1)), (t833), (t834), tS, tS, H', ⟨by have := HK1.out; omega⟩, ⟨tG BK826.out⟩, ⟨by repeat (first | (with_reducible first | exact HI830.out | apply IsS76.alloc | apply IsS76.drewN | apply IsS76.drew | apply IsS76.set_1 | apply IsS76.set_2 | refine IsS76.far ?_ NB830_826.out _) | exact HI830.out)⟩, ⟨by repeat (first | (with_reducible first | exact HB.out | apply bQA | apply bQN | apply bQ1 | refine bQS ?_ (IsS76.ge HI830.out) | refine bQS ?_ GE826.out) | exact HB.out)⟩⟩
def impl_Field_value.l0 : Nat → Int → Int → List Int → Int → Int → Int → Int → Option (Int)
  | 0, _, _, _, _, _, _, _ => none
  | k + 1, x2, x7, x10, x11, x12, x836000, x836001 => if x12 < x11 then (if 0 ≤ x12 then (if x12 < (x10.length : Int) then ((impl_Field_square.f k x836000 x836001 x2 x12).bind fun t837 => ((impl_Field_mul.f k x836000 x836001 (rd x10 x12) t837).bind fun t838 => (impl_Field_value.l0 k x2 (Go.bits .xor .i64 x7 t838) x10 x11 (wrap64 (x12 + 1)) x836000 x836001))) else (none)) else (none)) else (some x7)
def impl_Field_value.f (k : Nat) (a0_0 : Int) (a0_1 : Int) (l1 : List Int) (a2 : Int) : Option (Int) := impl_Field_value.l0 k a2 0 l1 (l1.length : Int) 0 a0_0 a0_1
theorem impl_Field_value.mono_l : ∀ k, (∀ y0 y1 y2 y3 y4 y5 y6, LeO (impl_Field_value.l0 k y0 y1 y2 y3 y4 y5 y6) (impl_Field_value.l0 (k + 1) y0 y1 y2 y3 y4 y5 y6))
 | 0 => fun _ _ _ _ _ _ _ r h => by simp [impl_Field_value.l0] at h
 | k + 1 => by
  have ih0 := impl_Field_value.mono_l k
  ·intro y0 y1 y2 y3 y4 y5 y6
   unfold impl_Field_value.l0
   repeat' first
   | (with_reducible first | apply ih0 | apply impl_Field_mul.mono | apply impl_Field_square.mono | exact LeO.refl _ | exact LeO.none _ | refine LeO.ite ?_ ?_ | refine LeO.bind ?_ (fun _ => ?_))
   | exact LeO.none _
   | refine LeO.ite ?_ ?_
   | refine LeO.bind ?_ (fun _ => ?_)
theorem impl_Field_value.mono : ∀ a0 a1 a2 a3 k, LeO (impl_Field_value.f k a0 a1 a2 a3) (impl_Field_value.f (k + 1) a0 a1 a2 a3) := by
 intro a0 a1 a2 a3 k
 have ih0 := impl_Field_value.mono_l k
 unfold impl_Field_value.f
 repeat' first
  | (with_reducible first | apply ih0 | apply impl_Field_mul.mono | apply impl_Field_square.mono | exact LeO.refl _ | exact LeO.none _ | refine LeO.ite ?_ ?_ | refine LeO.bind ?_ (fun _ => ?_))
  | exact LeO.none _
  | refine LeO.ite ?_ ?_
  | refine LeO.bind ?_ (fun _ => ?_)
def impl_Field_value.T5 : Bool × List (List Nat × List Nat) := (true, [([], []), ([], []), ([], []), ([], []), ([], []), ([], []), ([3, 4, 5], [3, 4, 5]), ([1, 2, 6, 6], [1, 2, 6]), ([0, 7], [0, 7]), ([8, 7, 0, 1, 2, 3, 4, 5, 6, 7, 8], [0, 8])])
def impl_Field_value.B5 : List Nat := [0, 0, 0, 0, 0, 0, 56, 126, 255, 511]
theorem impl_Field_value.tab5 : rtab .any (opsOf Try.f51 5) = impl_Field_value.T5 := by kernel_rfl
theorem impl_Field_value.bits5 : waitsOk impl_Field_value.T5.2 impl_Field_value.B5 = true := by kernel_rfl
theorem impl_Field_value.calls (k : Nat) (a0_0 : Int) (a0_1 : Int) (A1 : Option Addr) (c1 : Nat) (l1 : List Int) (a2 : Int) (r : Int) (w : World) (hr1 : Kd.C (Kd.int .i64) w A1 l1.length l1) (hc1 : l1.length ≤ c1) (h : impl_Field_value.f k a0_0 a0_1 l1 a2 = some r) :
 Calls Try.prog 51 #[.agg #[.int .i64 a0_0, .int .i64 a0_1], .slice A1 l1.length c1, .int .i64 a2] w fun e w' => e = .returned (.int .i64 r) ∧ Below w.heap.size w w' := by
 have hu27 := Try.underlying27
 have HR1 := Aq.mk hr1
 have HC1 := Aq.mk hc1
 clear hr1 hc1
 have HB := Aq.mk (Below.refl w.heap.size w)
 have H : (impl_Field_value.l0 k a2 0 l1 (l1.length : Int) 0 a0_0 a0_1) = some r := h
 clear h
 replace H' := Aq.mk H
 clear H
 go_enter Try.func51, Try.ntmps51
 go_wp2_with (first | ((with_reducible refine gQd (N := 3) rfl ?_); refine xQe ?hg (N := 3) ?hd (cs := #[.int .i64 a0_0, .int .i64 a0_1]) (t := 27) ?hr ?_; (case hd => rfl); (case hg => rfl); (case hr => exact tH); intro gb835 hg w4 hbox hb; refine qM4 (bQT tB hb) hbox (tZ w hg) (tZ w hg) ?_; clear HB; intro HB BK835 GW835 GE835; clear hb hbox hg))
 go_loopg [7, 12] k (fun kq v7 v12 w' => ∃ (x7_1 : Int) (x12_1 : Int), v7 = .int .i64 x7_1 ∧ v12 = .int .i64 x12_1 ∧ Aq (impl_Field_value.l0 kq a2 x7_1 l1 (l1.length : Int) x12_1 a0_0 a0_1 = some r) ∧ Aq (kq ≤ k) ∧ Aq (w'.heap[gb835]? = some (.cells #[.int .i64 a0_0, .int .i64 a0_1] 27 (0, 0))) ∧ Aq (Below w.heap.size w w'))
 case atStart => exact ⟨(0), (0), tS, tS, H', ⟨Nat.le_refl _⟩, ⟨tG BK835.out⟩, ⟨tB⟩⟩
 clear H'
 try clear c1
 obtain ⟨x7_1, x12_1, rfl, rfl, HA, HK1, BK835, HB⟩ := hrel
 cases gk with
 | zero => exact absurd HA.out (by simp [impl_Field_value.l0])
 | succ k1 =>
  have H := HA.out
  clear HA
  simp only [impl_Field_value.l0] at H
  by_cases c5 : x12_1 < (l1.length : Int)
  rotate_left
  ·rw [if_neg c5] at H
   have c5b0 := decide_eq_false c5
   clear c5
   obtain rfl := Option.some.inj H
   go_wp2
   go_ret
   exact ⟨tE, tB⟩
  rw [if_pos c5] at H
  have c5b0 := decide_eq_true c5
  clear c5
  by_cases c6 : 0 ≤ x12_1
  rotate_left
  ·rw [if_neg c6] at H
   exact absurd H (by simp)
  rw [if_pos c6] at H
  have c6b0 := decide_eq_true c6
  clear c6
  by_cases c7 : x12_1 < (l1.length : Int)
  rotate_left
  ·rw [if_neg c7] at H
   exact absurd H (by simp)
  rw [if_pos c7] at H
  have c7b0 := decide_eq_true c7
  clear c7
  obtain ⟨t837, A8, H⟩ := qBd H
  obtain ⟨t838, A9, H⟩ := qBd H
  replace H' := Aq.mk H
  clear H
  have p836 : 0 ≤ (x12_1 : Int) := of_decide_eq_true tA
  have q836 : x12_1 < (l1.length : Int) := of_decide_eq_true tA
  obtain ⟨ad836, e836, hx836_0⟩ := Kd.at_int HR1.out x12_1 p836 q836
  cases e836
  replace hx836_0 := (HB.out.cell (World.block_lt_of_cell? w _ hx836_0)).trans hx836_0
  replace p836 := eq_true p836
  replace q836 := eq_true q836
  try go_wp2
  have n0_ := Aq.mk (kQD BK835.out)
  have n1_ := Aq.mk (bQ1 HB.out)
  clear BK835
  clear HB
  have BK835 := n0_
  have HB := n1_
  clear n0_ n1_
  refine start_ (n := 10) (S := fun w' => w'.cell? ⟨gb835, 0, none⟩ = some (.int .i64 a0_0) ∧ w'.cell? ⟨gb835, 1, none⟩ = some (.int .i64 a0_1)) (ds := []) #[false, false, false, false, false, false, false, false, false, false] (by kernel_rfl) rfl rfl ⟨(kQC BK835.out 0).trans rfl, (kQC BK835.out 1).trans rfl⟩ (fun hHeld => ?_); refine with_tabW impl_Field_value.tab5 impl_Field_value.bits5 (fun HT_ HW_ => ?_)
  generalize wr.drew = w10 at BK835 HB hHeld ⊢
  refine tP0 0 17 (bm 10 1) ?_
  refine tP0 2 19 (bm 10 5) ?_
  refine tP0 4 21 (bm 10 21) ?_
  refine tP0 5 22 (bm 10 53) ?_
  refine tT2 1 18 (bm 10 55) ?_
  refine tT2 3 20 (bm 10 63) ?_
  refine one_ (i := 6) (N := some 23) (bm 10 127) rfl rfl (one_of HT_.out (by kernel_rfl)) (by decide) (fun K hK => ?_)
  refine goes_ Try.func81 (by kernel_rfl) rfl #[.agg #[.int .i64 a0_0, .int .i64 a0_1], .int .i64 a2, .int .i64 x12_1] (by rfl) rfl rfl tL ?_
  with_reducible refine (impl_Field_square.calls k1 a0_0 a0_1 a2 x12_1 t837 _ A8.out).mono ?_
  rintro e w11 ⟨rfl, hb⟩
  refine ⟨_, rfl, ?_⟩
  have n0_ := Aq.mk (tQ BK835.out hb)
  have n1_ := Aq.mk (bQT tB hb)
  clear BK835
  clear HB
  have BK835 := n0_
  have HB := n1_
  clear n0_ n1_
  (try clear hb)
  (try clear hb2)
  (try clear hk)
  (try clear hi)
  refine hK.out _ _ ⟨(kQC BK835.out 0).trans rfl, (kQC BK835.out 1).trans rfl⟩ (fun hHeld => ?_)
  clear hK K
  refine tN 23 ?_
  refine one_ (i := 7) (N := some 24) (bm 10 255) rfl rfl (one_of HT_.out (by kernel_rfl)) (by decide) (fun K hK => ?_)
  refine goes_ Try.func80 (by kernel_rfl) rfl #[.agg #[.int .i64 a0_0, .int .i64 a0_1], .int .i64 (rd l1 x12_1), .int .i64 t837] (by rfl) rfl rfl tL ?_
  with_reducible refine (impl_Field_mul.calls k1 a0_0 a0_1 (rd l1 x12_1) t837 t838 _ A9.out).mono ?_
  rintro e w12 ⟨rfl, hb⟩
  refine ⟨_, rfl, ?_⟩
  have n0_ := Aq.mk (tQ BK835.out hb)
  have n1_ := Aq.mk (bQT tB hb)
  clear BK835
  clear HB
  have BK835 := n0_
  have HB := n1_
  clear n0_ n1_
  (try clear hb)
  (try clear hb2)
  (try clear hk)
  (try clear hi)
  refine hK.out _ _ ⟨(kQC BK835.out 0).trans rfl, (kQC BK835.out 1).trans rfl⟩ (fun hHeld => ?_)
  clear hK K
  refine tN 24 ?_
  refine tP0 8 25 (bm 10 511) ?_
  refine tP0 9 7 (bm 10 1023) ?_
  refine done_ (done_of HT_.out (by kernel_rfl)) ?_
  try go_wp2
  go_roundg k1
  case measure => have := HK1.out; omega
  case rel => exact ⟨(Go.bits .xor .i64 x7_1 t838), (wrap64 (x12_1 + 1)), tS, tS, H', ⟨by have := HK1.out; omega⟩, ⟨tG BK835.out⟩, ⟨tB⟩⟩
def impl_ValueOf.j0 : Nat → List Int → Int → Int → Bool → Int → Int → Option (Int × Int)
  | 0, _, _, _, _, _, _ => none
  | k + 1, x1, x2, x8, x21, x840000, x840001 => if x21 = true then (if 2 = 0 then ((impl_Field_value.f k x840000 x840001 x1 x2).bind fun t848 => (some (t848, 0))) else (some (0, 2))) else (if x8 = 0 then ((impl_Field_value.f k x840000 x840001 x1 x2).bind fun t849 => (some (t849, 0))) else (some (0, x8)))
def impl_ValueOf.f (k : Nat) (a0_0 : Int) (a0_1 : Int) (l1 : List Int) (a2 : Int) : Option (Int × Int) := (impl_Field_linearCode.f k a0_0 a0_1 (([l1] : List (List Int)))).bind fun t843 => (if t843 = 0 then ((impl_Field_has.f k a0_0 a0_1 (([a2] : List Int))).bind fun t847 => (impl_ValueOf.j0 k l1 a2 t843 (!t847) a0_0 a0_1)) else (impl_ValueOf.j0 k l1 a2 t843 false a0_0 a0_1))
theorem impl_ValueOf.mono_l : ∀ k, (∀ y0 y1 y2 y3 y4 y5, LeO (impl_ValueOf.j0 k y0 y1 y2 y3 y4 y5) (impl_ValueOf.j0 (k + 1) y0 y1 y2 y3 y4 y5))
 | 0 => fun _ _ _ _ _ _ r h => by simp [impl_ValueOf.j0] at h
 | k + 1 => by
  have ih0 := impl_ValueOf.mono_l k
  ·intro y0 y1 y2 y3 y4 y5
   unfold impl_ValueOf.j0
   repeat' first
   | (with_reducible first | apply ih0 | apply impl_Field_has.mono | apply impl_Field_linearCode.mono | apply impl_Field_value.mono | exact LeO.refl _ | exact LeO.none _ | refine LeO.ite ?_ ?_ | refine LeO.bind ?_ (fun _ => ?_))
   | exact LeO.none _
   | refine LeO.ite ?_ ?_
   | refine LeO.bind ?_ (fun _ => ?_)
theorem impl_ValueOf.mono : ∀ a0 a1 a2 a3 k, LeO (impl_ValueOf.f k a0 a1 a2 a3) (impl_ValueOf.f (k + 1) a0 a1 a2 a3) := by
 intro a0 a1 a2 a3 k
 have ih0 := impl_ValueOf.mono_l k
 unfold impl_ValueOf.f
 repeat' first
  | (with_reducible first | apply ih0 | apply impl_Field_has.mono | apply impl_Field_linearCode.mono | apply impl_Field_value.mono | exact LeO.refl _ | exact LeO.none _ | refine LeO.ite ?_ ?_ | refine LeO.bind ?_ (fun _ => ?_))
  | exact LeO.none _
  | refine LeO.ite ?_ ?_
  | refine LeO.bind ?_ (fun _ => ?_)
theorem impl_ValueOf.calls (k : Nat) (a0_0 : Int) (a0_1 : Int) (P1_ : Nat → Prop) (A1 : Option Addr) (c1 : Nat) (l1 : List Int) (a2 : Int) (r1 : Int) (r2 : Int) (w : World) (hs1 : Kd.V (Kd.int .i64) 2 w w.heap.size (fun k_ => P1_ k_) (.slice A1 l1.length c1) l1) (h : impl_ValueOf.f k a0_0 a0_1 l1 a2 = some (r1, r2)) :
 Calls Try.prog 27 #[.agg #[.int .i64 a0_0, .int .i64 a0_1], .slice A1 l1.length c1, .int .i64 a2] w fun e w' => e = .returned (.tuple #[.int .i64 r1, .int .i64 r2]) ∧ Below w.heap.size w w' := by
 have hu27 := Try.underlying27
 have HO1 := Aq.mk (show Kd.V (Kd.int .i64) 2 w w.heap.size (fun k_ => (P1_ k_ ∨ w.heap.size ≤ k_)) (.slice A1 l1.length c1) l1 from Kd.V_mono hs1 (fun k_ hk => .inl hk))
 have HB := Aq.mk (Below.refl w.heap.size w)
 have H : ((impl_Field_linearCode.f k a0_0 a0_1 (([l1] : List (List Int)))).bind fun t843 => (if t843 = 0 then ((impl_Field_has.f k a0_0 a0_1 (([a2] : List Int))).bind fun t847 => (impl_ValueOf.j0 k l1 a2 t843 (!t847) a0_0 a0_1)) else (impl_ValueOf.j0 k l1 a2 t843 false a0_0 a0_1))) = some (r1, r2) := h
 clear h
 obtain ⟨y840, hy840⟩ : ∃ y_ : List (List Int), y_ = (([l1] : List (List Int))) := ⟨_, rfl⟩
 replace H : ((impl_Field_linearCode.f k a0_0 a0_1 y840).bind fun t843 => (if t843 = 0 then ((impl_Field_has.f k a0_0 a0_1 (([a2] : List Int))).bind fun t847 => (impl_ValueOf.j0 k l1 a2 t843 (!t847) a0_0 a0_1)) else (impl_ValueOf.j0 k l1 a2 t843 false a0_0 a0_1))) = some (r1, r2) := by first | (rw [hy840]; with_reducible exact H) | (have H2_ := (Option.bind_some _ _).symm.trans H; rw [hy840]; with_reducible exact H2_) | (have H2_ := (Option.bind_some _ _).symm.trans H; with_reducible exact H2_) | with_reducible exact H | (rw [hy840]; exact H) | exact H
 have Ny840 := Aq.mk hy840
 clear hy840
 obtain ⟨t843, A4, H⟩ := qBd H
 have HC5 := Aq.mk H
 clear H
 go_enter Try.func27, Try.ntmps27
 go_upto_region 2 with (first | ((with_reducible refine gQd (N := 3) rfl ?_); (try (refine gate_guard (by rfl) ?_; dsimp only)); refine xQe ?hg (N := 3) ?hd (cs := #[.int .i64 a0_0, .int .i64 a0_1]) (t := 27) ?hr ?_; (case hd => rfl); (case hg => rfl); (case hr => exact tH); intro gb839 hg w6 hbox hb; refine qM5 (Kd.V_below (Kd.V_elderB (by (with_reducible repeat (first | apply Kd.V_alloc | apply Kd.V_drewN | apply Kd.V_drew)); exact HO1.out) gb839 (Nat.le_of_eq hg.symm)) hb) (bQT tB hb) hbox (tZ w hg) (tZ w hg) ?_; clear HO1 HB; intro HO1 HB BK839 GW839 GE839; clear hb hbox hg; have hcz7_0 : w6.cell? ⟨gb839, 0, none⟩ = some (.int .i64 a0_0) := (kQC BK839.out 0).trans rfl; have hcz7_1 : w6.cell? ⟨gb839, 1, none⟩ = some (.int .i64 a0_1) := (kQC BK839.out 1).trans rfl; have hfz7_0 := kQF BK839.out 0; have hfz7_1 := kQF BK839.out 1) | ((with_reducible refine gQd (N := 11) rfl ?_); (try (refine gate_guard (by rfl) ?_; dsimp only)); refine Kd.N_lit (Kd.slice 2 (Kd.int .i64)) _ 24 ?hg (N' := 11) ?hd (xs := ([l1] : List (List Int))) (inner := [.slice A1 l1.length c1]) (ok := (fun k_ => (P1_ k_ ∨ w.heap.size ≤ k_) ∧ k_ ≠ gb839)) (okp := (fun k_ => (P1_ k_ ∨ w.heap.size ≤ k_) ∧ k_ ≠ gb839)) ?hr ?hp (fun _ hk => hk) ((show ∀ k_, w6.heap.size ≤ k_ → (fun k_ => (P1_ k_ ∨ w.heap.size ≤ k_) ∧ k_ ≠ gb839) k_ from fun k_ hk => ⟨(.inr (Nat.le_trans (bQZ tB) hk)), Kd.freshB (g := gb839) (o := .cells #[.int .i64 a0_0, .int .i64 a0_1] 27 (0, 0)) (tG BK839.out) k_ hk⟩) _ (Nat.le_refl _)) (Below.refl _ _) (Nat.le_refl _) (by simp) ?_; (case hd => rfl); (case hg => rfl); (case hr => exact tH); (case hp => exact (Reps.one (show Kd.FK (Kd.slice 2 (Kd.int .i64)) _ _ l1 [.slice A1 l1.length c1] from (Kd.FK_slice_mk (Kd.V_reads' (Kd.V_mono (ok' := (fun k_ => (P1_ k_ ∨ w.heap.size ≤ k_) ∧ k_ ≠ gb839)) (HO1.out) (fun k_ hk => ⟨hk.1, hk.2⟩))).2.1 (Kd.V_F (Kd.V_mono (ok' := (fun k_ => (P1_ k_ ∨ w.heap.size ≤ k_) ∧ k_ ≠ gb839)) (HO1.out) (fun k_ hk => ⟨hk.1, hk.2⟩))))) (Reps.none _ _))); intro v841 w8 ho9 hb hg_ hnew_; clear hg_ hnew_; (first | rw [← Ny840.out] at ho9 | (simp only [Int.reduceToNat] at ho9; rw [← Ny840.out] at ho9)); refine qM4 (Kd.V_elder' (by (with_reducible repeat (first | apply Kd.V_alloc | apply Kd.V_drewN | apply Kd.V_drew)); exact HO1.out) (Kd.N_base ho9) hb) (Kd.N_lower ho9 (bQZ tB)) (tQ BK839.out hb) (bQT tB hb) ?_; clear HO1 BK839 HB; intro HO1 HO842 BK839 HB; clear hb ho9; obtain ⟨Ao10, co10, eo10⟩ := Kd.N_slice HO842.out; subst eo10) | ((with_reducible refine gQc (f := 41) rfl ?_); refine goesL_ (some 12) rfl rfl Try.func41 (by kernel_rfl) rfl #[.agg #[.int .i64 a0_0, .int .i64 a0_1], .slice Ao10 y840.length co10] rfl tL ?_; (with_reducible refine (impl_Field_linearCode.calls k a0_0 a0_1 _ _ y840 t843 _ ?s1 ?s2 A4.out).mono ?_); (case s1 => exact tC ((Kd.N_reads' HO842.out).2.2)); (case s2 => exact (Kd.N_reads' HO842.out).2.1); rintro e w11 ⟨rfl, hb⟩; refine ⟨_, rfl, ?_⟩; refine qM4 (Kd.V_below (by (with_reducible repeat (first | apply Kd.V_alloc | apply Kd.V_drewN | apply Kd.V_drew)); exact HO1.out) hb) (Kd.N_below (by (with_reducible repeat (first | apply Kd.N_alloc | apply Kd.N_drewN | apply Kd.N_drew)); exact HO842.out) hb) (tQ BK839.out hb) (bQT tB hb) ?_; clear HO1 HO842 BK839 HB; intro HO1 HO842 BK839 HB; (try clear hb); (try clear hb2); (try clear hk); (try clear hi)))
 (try simp only [Act.put, qSa, qSb, qSc])
 go_cut [21] (fun v21 wc => ∃ (kq : Nat) (x21_4 : Bool), v21 = .bool x21_4 ∧ Aq (impl_ValueOf.j0 kq l1 a2 t843 x21_4 a0_0 a0_1 = some (r1, r2)) ∧ Aq (kq ≤ k) ∧ Aq (Kd.V (Kd.int .i64) 2 wc w.heap.size (fun k_ => (P1_ k_ ∨ w.heap.size ≤ k_) ∧ k_ ≠ gb839) (.slice A1 l1.length c1) l1) ∧ Aq (wc.heap[gb839]? = some (.cells #[.int .i64 a0_0, .int .i64 a0_1] 27 (0, 0))) ∧ Aq (Below w.heap.size w wc))
 case first =>
  have H := HC5.out
  clear HC5
  by_cases c12 : t843 = 0
  rotate_left
  ·rw [if_neg c12] at H
   have c12b0 := beq_eq_false_iff_ne.mpr c12
   have c12b1 := bne_iff_ne.mpr c12
   (first | rw [c12b0] | (simp only [i64_w, i32_w]; rw [c12b0]) | skip)
   replace H' := Aq.mk H
   clear H
   go_wp2
   go_meet
   case rel => exact ⟨_, (false), tS, H', ⟨tO⟩, ⟨by (with_reducible repeat (first | apply Kd.V_alloc | apply Kd.V_drewN | apply Kd.V_drew)); exact Kd.V_mono HO1.out (fun _ hk => ⟨hk.1.1, hk.1.2⟩)⟩, ⟨tG BK839.out⟩, ⟨tB⟩⟩
  rw [if_pos c12] at H
  have c12b0 := beq_iff_eq.mpr c12
  have c12b1 := bne_eq_false_iff_eq.mpr c12
  clear c12
  (first | rw [c12b0] | (simp only [i64_w, i32_w]; rw [c12b0]) | skip)
  obtain ⟨y844, hy844⟩ : ∃ y_ : List Int, y_ = (([a2] : List Int)) := ⟨_, rfl⟩
  replace H : ((impl_Field_has.f k a0_0 a0_1 y844).bind fun t847 => (impl_ValueOf.j0 k l1 a2 t843 (!t847) a0_0 a0_1)) = some (r1, r2) := by first | (rw [hy844]; with_reducible exact H) | (have H2_ := (Option.bind_some _ _).symm.trans H; rw [hy844]; with_reducible exact H2_) | (have H2_ := (Option.bind_some _ _).symm.trans H; with_reducible exact H2_) | with_reducible exact H | (rw [hy844]; exact H) | exact H
  have Ny844 := Aq.mk hy844
  clear hy844
  obtain ⟨t847, A13, H⟩ := qBd H
  replace H' := Aq.mk H
  clear H
  have hcz14_0 : w11.cell? ⟨gb839, 0, none⟩ = some (.int .i64 a0_0) := (kQC BK839.out 0).trans rfl
  have hcz14_1 : w11.cell? ⟨gb839, 1, none⟩ = some (.int .i64 a0_1) := (kQC BK839.out 1).trans rfl
  have hfz14_0 := kQF BK839.out 0
  have hfz14_1 := kQF BK839.out 1
  go_wp2_with (first | ((with_reducible refine gQd (N := 18) rfl ?_); (try (refine gate_guard (by rfl) ?_; dsimp only)); refine Kd.R_lit (Kd.int .i64) _ 2 ?hg (N := 18) ?hd (xs := ([a2] : List Int)) (inner := [.int .i64 a2]) (ok := fun _ => True) (okp := fun _ => True) ?hr ?hp (fun _ hk => hk) trivial (Below.refl _ _) (Nat.le_refl _) (by simp) ?_; (case hd => rfl); (case hg => rfl); (case hr => exact tH); (case hp => exact (Reps.one (show Kd.M (Kd.int .i64) _ _ _ a2 [.int .i64 a2] from rfl) (Reps.none _ _))); intro v845 w15 ho16 hb hg_ hnew_; clear hg_ hnew_; (first | rw [← Ny844.out] at ho16 | (simp only [Int.reduceToNat] at ho16; rw [← Ny844.out] at ho16)); refine qM5 (Kd.V_elder' (by (with_reducible repeat (first | apply Kd.V_alloc | apply Kd.V_drewN | apply Kd.V_drew)); exact HO1.out) (Kd.R_base ho16) hb) (Kd.N_elder' (by (with_reducible repeat (first | apply Kd.N_alloc | apply Kd.N_drewN | apply Kd.N_drew)); exact HO842.out) (Kd.R_base ho16) hb) (Kd.R_lower (Kd.R_newM (M := fun k_ => (w.heap.size ≤ k_)) ho16 (bQZ tB) (fun k_ h_ => h_)) (bQZ tB)) (tQ BK839.out hb) (bQT tB hb) ?_; clear HO1 HO842 BK839 HB; intro HO1 HO842 HO846 BK839 HB; clear hb ho16; obtain ⟨Ao17, co17, eo17⟩ := Kd.R_slice HO846.out; subst eo17) | (go_at_call 50; (with_reducible refine (impl_Field_has.calls k a0_0 a0_1 _ _ y844 t847 _ ?s1 ?s2 A13.out).mono ?_); (case s1 => exact tC ((Kd.R_reads' HO846.out).2.2)); (case s2 => exact (Kd.R_reads' HO846.out).2.1); rintro e w18 ⟨rfl, hb⟩; refine qM5 (Kd.V_below (by (with_reducible repeat (first | apply Kd.V_alloc | apply Kd.V_drewN | apply Kd.V_drew)); exact HO1.out) hb) (Kd.N_below (by (with_reducible repeat (first | apply Kd.N_alloc | apply Kd.N_drewN | apply Kd.N_drew)); exact HO842.out) hb) (Kd.R_below (tR HO846.out) hb) (tQ BK839.out hb) (bQT tB hb) ?_; clear HO1 HO842 HO846 BK839 HB; intro HO1 HO842 HO846 BK839 HB; (try clear hb); (try clear hb2); (try clear hk); (try clear hi)))
  go_meet
  case rel => exact ⟨_, (!t847), tS, H', ⟨tO⟩, ⟨by (with_reducible repeat (first | apply Kd.V_alloc | apply Kd.V_drewN | apply Kd.V_drew)); exact Kd.V_mono HO1.out (fun _ hk => ⟨hk.1.1.1, hk.1.1.2⟩)⟩, ⟨tG BK839.out⟩, ⟨tB⟩⟩
 clear HC5
 try clear c1
 try clear c12
 try clear c12b0
 try clear c12b1
 try clear hcz14_0
 try clear hcz14_1
 try clear hcz7_0
 try clear hcz7_1
 try clear hfz14_0
 try clear hfz14_1
 try clear hfz7_0
 try clear hfz7_1
 obtain ⟨kq, x21_4, rfl, HA, HJ4, HO_1, BK839, HB⟩ := hcut
 cases kq with
 | zero => exact absurd HA.out (by simp [impl_ValueOf.j0])
 | succ kj4 =>
  have H := HA.out
  clear HA
  simp only [impl_ValueOf.j0] at H
  by_cases c19 : x21_4 = true
  ·subst c19
   rw [if_pos rfl] at H
   by_cases c20 : 2 = 0
   ·exact absurd c20 (by decide)
   rw [if_neg c20] at H
   have c20b0 := beq_eq_false_iff_ne.mpr c20
   have c20b1 := bne_iff_ne.mpr c20
   simp only [Option.some.injEq, Prod.mk.injEq] at H
   obtain ⟨rfl, rfl⟩ := H
   go_wp2
   go_ret2
   exact ⟨tE, tB⟩
  replace c19 := Bool.eq_false_iff.mpr c19
  subst c19
  rw [if_neg (show ¬ (false = true) by decide)] at H
  by_cases c24 : t843 = 0
  rotate_left
  ·rw [if_neg c24] at H
   have c24b0 := beq_eq_false_iff_ne.mpr c24
   have c24b1 := bne_iff_ne.mpr c24
   simp only [Option.some.injEq, Prod.mk.injEq] at H
   obtain ⟨rfl, rfl⟩ := H
   go_wp2
   go_ret2
   exact ⟨tE, tB⟩
  rw [if_pos c24] at H
  have c24b0 := beq_iff_eq.mpr c24
  have c24b1 := bne_eq_false_iff_eq.mpr c24
  clear c24
  obtain ⟨t849, A25, H⟩ := qBd H
  simp only [Option.some.injEq, Prod.mk.injEq] at H
  obtain ⟨rfl, rfl⟩ := H
  have hcz26_0 : wc.cell? ⟨gb839, 0, none⟩ = some (.int .i64 a0_0) := (kQC BK839.out 0).trans rfl
  have hcz26_1 : wc.cell? ⟨gb839, 1, none⟩ = some (.int .i64 a0_1) := (kQC BK839.out 1).trans rfl
  have hfz26_0 := kQF BK839.out 0
  have hfz26_1 := kQF BK839.out 1
  go_wp2_with (first | ((with_reducible refine gQc (f := 51) rfl ?_); refine goesL_ (some 28) rfl rfl Try.func51 (by kernel_rfl) rfl #[.agg #[.int .i64 a0_0, .int .i64 a0_1], .slice A1 l1.length c1, .int .i64 a2] rfl tL ?_; (with_reducible refine (impl_Field_value.calls kj4 a0_0 a0_1 _ _ l1 a2 t849 _ ?s1 ?s2 A25.out).mono ?_); (case s1 => exact tC ((Kd.V_reads' HO_1.out).2.2)); (case s2 => exact (Kd.V_reads' HO_1.out).2.1); rintro e w27 ⟨rfl, hb⟩; refine ⟨_, rfl, ?_⟩; refine qM3 (Kd.V_below (by (with_reducible repeat (first | apply Kd.V_alloc | apply Kd.V_drewN | apply Kd.V_drew)); exact HO_1.out) hb) (tQ BK839.out hb) (bQT tB hb) ?_; clear HO_1 BK839 HB; intro HO_1 BK839 HB; (try clear hb); (try clear hb2); (try clear hk); (try clear hi)))
  go_ret2
  exact ⟨tE, tB⟩
end Go.Proofs.Ytkhjoomjjdgkjaa.P
