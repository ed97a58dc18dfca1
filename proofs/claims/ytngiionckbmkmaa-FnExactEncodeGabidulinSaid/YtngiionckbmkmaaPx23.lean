/- Functions of the program and what they tell, as the printing program wrote it. -/
import Derived.Test.YtngiionckbmkmaaPx0
import Derived.Test.YtngiionckbmkmaaPx13
import Derived.Test.YtngiionckbmkmaaPx15
namespace Go.Proofs.Ytngiionckbmkmaa.P
open Go.Shelf Go.RowKit Go.Proofs.YtngiionckbmkmaaW.PrintWords Go.Proofs.YtngiionckbmkmaaW.PrintLast Go.Proofs.YtngiionckbmkmaaW.PrintMore
attribute [local go_sem] max2_int min2_int max_two min_two max_three min_three max_four min_four
set_option linter.unusedVariables false
set_option linter.unusedSimpArgs false
def spec_l01Square.l0 : Nat → Int → Int → Int → Int → Option (Int)
  | 0, _, _, _, _ => none
  | k + 1, x1, x2, x410000, x410001 => if x2 > 0 then ((spec_l01Mul.f k x410000 x410001 x1 x1).bind fun t410 => (spec_l01Square.l0 k t410 (wrap64 (x2 - 1)) x410000 x410001)) else (some x1)
def spec_l01Square.f (k : Nat) (a0_0 : Int) (a0_1 : Int) (a1 : Int) (a2 : Int) : Option (Int) := if a0_0 = 0 then (none) else (spec_l01Square.l0 k a1 (Int.tmod a2 a0_0) a0_0 a0_1)
theorem spec_l01Square.mono_l : ∀ k, (∀ y0 y1 y2 y3, LeO (spec_l01Square.l0 k y0 y1 y2 y3) (spec_l01Square.l0 (k + 1) y0 y1 y2 y3))
 | 0 => fun _ _ _ _ r h => by simp [spec_l01Square.l0] at h
 | k + 1 => by
  have ih0 := spec_l01Square.mono_l k
  ·intro y0 y1 y2 y3
   unfold spec_l01Square.l0
   repeat' first
   | (with_reducible first | exact ih0 _ _ _ _ | exact spec_l01Mul.mono _ _ _ _ _ | exact LeO.refl _ | exact LeO.none _ | refine LeO.ite ?_ ?_ | refine LeO.bind ?_ (fun _ => ?_))
   | exact LeO.none _
   | refine LeO.ite ?_ ?_
   | refine LeO.bind ?_ (fun _ => ?_)
theorem spec_l01Square.mono : ∀ a0 a1 a2 a3 k, LeO (spec_l01Square.f k a0 a1 a2 a3) (spec_l01Square.f (k + 1) a0 a1 a2 a3) := by
 intro a0 a1 a2 a3 k
 have ih0 := spec_l01Square.mono_l k
 unfold spec_l01Square.f
 repeat' first
  | (with_reducible first | exact ih0 _ _ _ _ | exact spec_l01Mul.mono _ _ _ _ _ | exact LeO.refl _ | exact LeO.none _ | refine LeO.ite ?_ ?_ | refine LeO.bind ?_ (fun _ => ?_))
  | exact LeO.none _
  | refine LeO.ite ?_ ?_
  | refine LeO.bind ?_ (fun _ => ?_)
set_option maxHeartbeats 8000000 in
set_option maxRecDepth 100000 in
theorem spec_l01Square.calls (k : Nat) (a0_0 : Int) (a0_1 : Int) (a1 : Int) (a2 : Int) (r : Int) (w : World) (h : spec_l01Square.f k a0_0 a0_1 a1 a2 = some r) :
 Calls Try.prog 112 #[.agg #[.int .i64 a0_0, .int .i64 a0_1], .int .i64 a1, .int .i64 a2] w fun e w' => e = .returned (.int .i64 r) ∧ Below w.heap.size w w' := by
 have hu29 := Try.underlying29
 have HB := Aq.mk (Below.refl w.heap.size w)
 have H : (if a0_0 = 0 then (none) else (spec_l01Square.l0 k a1 (Int.tmod a2 a0_0) a0_0 a0_1)) = some r := h
 clear h
 by_cases c4 : a0_0 = 0
 ·rw [if_pos c4] at H
  exact absurd H (by simp)
 ·rw [if_neg c4] at H
  have c4b0 : (a0_0 == 0) = false := beq_eq_false_iff_ne.mpr c4
  have c4b1 : (a0_0 != 0) = true := bne_iff_ne.mpr c4
  have H' := Aq.mk H
  clear H
  go_enter Try.func112, Try.ntmps112
  go_wp2_with (first | ((with_reducible refine gQd (N := 3) rfl ?_); refine xQe ?hg (N := 3) ?hd (cs := #[.int .i64 a0_0, .int .i64 a0_1]) (t := 29) ?hr ?_; (case hd => rfl); (case hg => rfl); (case hr => first | (go_simp; done) | (go_simp; rfl)); intro gb409 hg w5 hbox hb; have n0_ := Aq.mk (bQT (by repeat (first | (with_reducible first | exact HB.out | apply bQA | apply bQN | apply bQ1) | exact HB.out)) hb); have n1_ := Aq.mk (hbox); have n2_ := Aq.mk ((by rw [hg]; exact (bQZ (by repeat (first | (with_reducible first | exact HB.out | apply bQA | apply bQN | apply bQ1) | exact HB.out))) : w.heap.size ≤ gb409)); have n3_ := Aq.mk ((by rw [hg]; exact (bQZ (by repeat (first | (with_reducible first | exact HB.out | apply bQA | apply bQN | apply bQ1) | exact HB.out))) : w.heap.size ≤ gb409)); clear HB; have HB := n0_; have BK409 := n1_; have GW409 := n2_; have GE409 := n3_; clear n0_ n1_ n2_ n3_; clear hb hbox hg; have hcz6_0 : w5.cell? ⟨gb409, 0, none⟩ = some (.int .i64 a0_0) := (kQC BK409.out 0).trans rfl; have hcz6_1 : w5.cell? ⟨gb409, 1, none⟩ = some (.int .i64 a0_1) := (kQC BK409.out 1).trans rfl; have hfz6_0 := kQF BK409.out 0; have hfz6_1 := kQF BK409.out 1))
  go_loopg [1, 2] k (fun kq v1 v2 w' => ∃ (x1_1 : Int) (x2_1 : Int), v1 = .int .i64 x1_1 ∧ v2 = .int .i64 x2_1 ∧ Aq (spec_l01Square.l0 kq x1_1 x2_1 a0_0 a0_1 = some r) ∧ Aq (kq ≤ k) ∧ Aq (w'.heap[gb409]? = some (.cells #[.int .i64 a0_0, .int .i64 a0_1] 29 (0, 0))) ∧ Aq (Below w.heap.size w w'))
  case atStart => exact ⟨(a1), (Int.tmod a2 a0_0), (by first | rfl | (simp; done) | (simp [*]; done)), (by first | rfl | (simp; done) | (simp [*]; done)), H', ⟨Nat.le_refl _⟩, ⟨by (with_reducible repeat (first | refine kQN ?_ _ | refine kQD ?_ | refine kQA ?_ _)); exact BK409.out⟩, ⟨by repeat (first | (with_reducible first | exact HB.out | apply bQA | apply bQN | apply bQ1 | refine bQS ?_ GE409.out) | exact HB.out)⟩⟩
  case round =>
   clear H'
   try clear c1
   try clear p2
   try clear c4
   try clear c4b0
   try clear c4b1
   try clear hcz6_0
   try clear hcz6_1
   try clear hfz6_0
   try clear hfz6_1
   obtain ⟨x1_1, x2_1, rfl, rfl, HA, HK1, BK409, HB⟩ := hrel
   cases gk with
   | zero => exact absurd HA.out (by simp [spec_l01Square.l0])
   | succ k1 =>
    have H := HA.out
    clear HA
    simp only [spec_l01Square.l0] at H
    by_cases c7 : x2_1 > 0
    ·rw [if_pos c7] at H
     have c7b0 : decide (0 < x2_1) = true := decide_eq_true c7
     clear c7
     replace H := Option.bind_eq_some_iff.mp H
     obtain ⟨t410, A80, H⟩ := H
     replace H : (spec_l01Square.l0 k1 t410 (wrap64 (x2_1 - 1)) a0_0 a0_1) = some r := H
     have A8 := Aq.mk A80
     clear A80
     have H' := Aq.mk H
     clear H
     have hcz9_0 : wr.cell? ⟨gb409, 0, none⟩ = some (.int .i64 a0_0) := (kQC BK409.out 0).trans rfl
     have hcz9_1 : wr.cell? ⟨gb409, 1, none⟩ = some (.int .i64 a0_1) := (kQC BK409.out 1).trans rfl
     have hfz9_0 := kQF BK409.out 0
     have hfz9_1 := kQF BK409.out 1
     go_wp2_with (first | ((with_reducible refine gQc (f := 137) rfl ?_); refine goesL_ (some 18) rfl rfl Try.func137 (by kernel_rfl) rfl #[.agg #[.int .i64 a0_0, .int .i64 a0_1], .int .i64 x1_1, .int .i64 x1_1] rfl (by (try simp only [List.map_toArray, List.map_cons, List.map_nil]); first | done | rfl | (simp only [List.length_drop, List.length_take]; rfl)) ?_; (with_reducible refine (spec_l01Mul.calls k1 a0_0 a0_1 x1_1 x1_1 t410 _ A8.out).mono ?_); rintro e w10 ⟨rfl, hb⟩; refine ⟨_, rfl, ?_⟩; have n0_ := Aq.mk (kQB (g := gb409) (o := .cells #[.int .i64 a0_0, .int .i64 a0_1] 29 (0, 0)) (by (with_reducible repeat (first | refine kQN ?_ _ | refine kQD ?_ | refine kQA ?_ _)); exact BK409.out) hb); have n1_ := Aq.mk (bQT (by repeat (first | (with_reducible first | exact HB.out | apply bQA | apply bQN | apply bQ1 | refine bQS ?_ GE409.out) | exact HB.out)) hb); clear BK409; clear HB; have BK409 := n0_; have HB := n1_; clear n0_ n1_; (try clear hb); (try clear hb2); (try clear hk); (try clear hi)))
     go_roundg k1
     case measure => have := HK1.out; omega
     case rel => exact ⟨(t410), (wrap64 (x2_1 - 1)), (by first | rfl | (simp; done) | (simp [*]; done)), (by first | rfl | (simp; done) | (simp [*]; done)), H', ⟨by have := HK1.out; omega⟩, ⟨by (with_reducible repeat (first | refine kQN ?_ _ | refine kQD ?_ | refine kQA ?_ _)); exact BK409.out⟩, ⟨by repeat (first | (with_reducible first | exact HB.out | apply bQA | apply bQN | apply bQ1 | refine bQS ?_ GE409.out) | exact HB.out)⟩⟩
    ·rw [if_neg c7] at H
     have c7b0 : decide (0 < x2_1) = false := decide_eq_false c7
     clear c7
     obtain rfl := Option.some.inj H
     go_wp2
     go_ret
     exact ⟨by first | rfl | (simp [errW_none, errW_some] <;> rfl) | (simp [*, errW_none, errW_some] <;> rfl), by repeat (first | (with_reducible first | exact HB.out | apply bQA | apply bQN | apply bQ1 | refine bQS ?_ GE409.out) | exact HB.out)⟩
def impl_Field_square.l0 : Nat → Int → Int → Int → Int → Int → Option (Int)
  | 0, _, _, _, _, _ => none
  | k + 1, x1, x10, x11, x437000, x437001 => if x11 < x10 then ((impl_Field_mul.f k x437000 x437001 x1 x1).bind fun t437 => (impl_Field_square.l0 k t437 x10 (wrap64 (x11 + 1)) x437000 x437001)) else (some x1)
def impl_Field_square.f (k : Nat) (a0_0 : Int) (a0_1 : Int) (a1 : Int) (a2 : Int) : Option (Int) := if a0_0 = 0 then (none) else (impl_Field_square.l0 k a1 (Int.tmod a2 a0_0) 0 a0_0 a0_1)
theorem impl_Field_square.mono_l : ∀ k, (∀ y0 y1 y2 y3 y4, LeO (impl_Field_square.l0 k y0 y1 y2 y3 y4) (impl_Field_square.l0 (k + 1) y0 y1 y2 y3 y4))
 | 0 => fun _ _ _ _ _ r h => by simp [impl_Field_square.l0] at h
 | k + 1 => by
  have ih0 := impl_Field_square.mono_l k
  ·intro y0 y1 y2 y3 y4
   unfold impl_Field_square.l0
   repeat' first
   | (with_reducible first | exact ih0 _ _ _ _ _ | exact impl_Field_mul.mono _ _ _ _ _ | exact LeO.refl _ | exact LeO.none _ | refine LeO.ite ?_ ?_ | refine LeO.bind ?_ (fun _ => ?_))
   | exact LeO.none _
   | refine LeO.ite ?_ ?_
   | refine LeO.bind ?_ (fun _ => ?_)
theorem impl_Field_square.mono : ∀ a0 a1 a2 a3 k, LeO (impl_Field_square.f k a0 a1 a2 a3) (impl_Field_square.f (k + 1) a0 a1 a2 a3) := by
 intro a0 a1 a2 a3 k
 have ih0 := impl_Field_square.mono_l k
 unfold impl_Field_square.f
 repeat' first
  | (with_reducible first | exact ih0 _ _ _ _ _ | exact impl_Field_mul.mono _ _ _ _ _ | exact LeO.refl _ | exact LeO.none _ | refine LeO.ite ?_ ?_ | refine LeO.bind ?_ (fun _ => ?_))
  | exact LeO.none _
  | refine LeO.ite ?_ ?_
  | refine LeO.bind ?_ (fun _ => ?_)
set_option maxHeartbeats 8000000 in
set_option maxRecDepth 100000 in
theorem impl_Field_square.calls (k : Nat) (a0_0 : Int) (a0_1 : Int) (a1 : Int) (a2 : Int) (r : Int) (w : World) (h : impl_Field_square.f k a0_0 a0_1 a1 a2 = some r) :
 Calls Try.prog 113 #[.agg #[.int .i64 a0_0, .int .i64 a0_1], .int .i64 a1, .int .i64 a2] w fun e w' => e = .returned (.int .i64 r) ∧ Below w.heap.size w w' := by
 have hu29 := Try.underlying29
 have HB := Aq.mk (Below.refl w.heap.size w)
 have H : (if a0_0 = 0 then (none) else (impl_Field_square.l0 k a1 (Int.tmod a2 a0_0) 0 a0_0 a0_1)) = some r := h
 clear h
 by_cases c4 : a0_0 = 0
 ·rw [if_pos c4] at H
  exact absurd H (by simp)
 ·rw [if_neg c4] at H
  have c4b0 : (a0_0 == 0) = false := beq_eq_false_iff_ne.mpr c4
  have c4b1 : (a0_0 != 0) = true := bne_iff_ne.mpr c4
  have H' := Aq.mk H
  clear H
  go_enter Try.func113, Try.ntmps113
  go_wp2_with (first | ((with_reducible refine gQd (N := 3) rfl ?_); refine xQe ?hg (N := 3) ?hd (cs := #[.int .i64 a0_0, .int .i64 a0_1]) (t := 29) ?hr ?_; (case hd => rfl); (case hg => rfl); (case hr => first | (go_simp; done) | (go_simp; rfl)); intro gb436 hg w5 hbox hb; have n0_ := Aq.mk (bQT (by repeat (first | (with_reducible first | exact HB.out | apply bQA | apply bQN | apply bQ1) | exact HB.out)) hb); have n1_ := Aq.mk (hbox); have n2_ := Aq.mk ((by rw [hg]; exact (bQZ (by repeat (first | (with_reducible first | exact HB.out | apply bQA | apply bQN | apply bQ1) | exact HB.out))) : w.heap.size ≤ gb436)); have n3_ := Aq.mk ((by rw [hg]; exact (bQZ (by repeat (first | (with_reducible first | exact HB.out | apply bQA | apply bQN | apply bQ1) | exact HB.out))) : w.heap.size ≤ gb436)); clear HB; have HB := n0_; have BK436 := n1_; have GW436 := n2_; have GE436 := n3_; clear n0_ n1_ n2_ n3_; clear hb hbox hg; have hcz6_0 : w5.cell? ⟨gb436, 0, none⟩ = some (.int .i64 a0_0) := (kQC BK436.out 0).trans rfl; have hcz6_1 : w5.cell? ⟨gb436, 1, none⟩ = some (.int .i64 a0_1) := (kQC BK436.out 1).trans rfl; have hfz6_0 := kQF BK436.out 0; have hfz6_1 := kQF BK436.out 1))
  go_loopg [1, 11] k (fun kq v1 v11 w' => ∃ (x1_1 : Int) (x11_1 : Int), v1 = .int .i64 x1_1 ∧ v11 = .int .i64 x11_1 ∧ Aq (impl_Field_square.l0 kq x1_1 (Int.tmod a2 a0_0) x11_1 a0_0 a0_1 = some r) ∧ Aq (kq ≤ k) ∧ Aq (w'.heap[gb436]? = some (.cells #[.int .i64 a0_0, .int .i64 a0_1] 29 (0, 0))) ∧ Aq (Below w.heap.size w w'))
  case atStart => exact ⟨(a1), (0), (by first | rfl | (simp; done) | (simp [*]; done)), (by first | rfl | (simp; done) | (simp [*]; done)), H', ⟨Nat.le_refl _⟩, ⟨by (with_reducible repeat (first | refine kQN ?_ _ | refine kQD ?_ | refine kQA ?_ _)); exact BK436.out⟩, ⟨by repeat (first | (with_reducible first | exact HB.out | apply bQA | apply bQN | apply bQ1 | refine bQS ?_ GE436.out) | exact HB.out)⟩⟩
  case round =>
   clear H'
   try clear c1
   try clear p2
   try clear c4
   try clear c4b0
   try clear c4b1
   try clear hcz6_0
   try clear hcz6_1
   try clear hfz6_0
   try clear hfz6_1
   obtain ⟨x1_1, x11_1, rfl, rfl, HA, HK1, BK436, HB⟩ := hrel
   cases gk with
   | zero => exact absurd HA.out (by simp [impl_Field_square.l0])
   | succ k1 =>
    have H := HA.out
    clear HA
    simp only [impl_Field_square.l0] at H
    by_cases c7 : x11_1 < (Int.tmod a2 a0_0)
    ·rw [if_pos c7] at H
     have c7b0 : decide (x11_1 < (Int.tmod a2 a0_0)) = true := decide_eq_true c7
     clear c7
     replace H := Option.bind_eq_some_iff.mp H
     obtain ⟨t437, A80, H⟩ := H
     replace H : (impl_Field_square.l0 k1 t437 (Int.tmod a2 a0_0) (wrap64 (x11_1 + 1)) a0_0 a0_1) = some r := H
     have A8 := Aq.mk A80
     clear A80
     have H' := Aq.mk H
     clear H
     have hcz9_0 : wr.cell? ⟨gb436, 0, none⟩ = some (.int .i64 a0_0) := (kQC BK436.out 0).trans rfl
     have hcz9_1 : wr.cell? ⟨gb436, 1, none⟩ = some (.int .i64 a0_1) := (kQC BK436.out 1).trans rfl
     have hfz9_0 := kQF BK436.out 0
     have hfz9_1 := kQF BK436.out 1
     go_wp2_with (first | ((with_reducible refine gQc (f := 128) rfl ?_); refine goesL_ (some 16) rfl rfl Try.func128 (by kernel_rfl) rfl #[.agg #[.int .i64 a0_0, .int .i64 a0_1], .int .i64 x1_1, .int .i64 x1_1] rfl (by (try simp only [List.map_toArray, List.map_cons, List.map_nil]); first | done | rfl | (simp only [List.length_drop, List.length_take]; rfl)) ?_; (with_reducible refine (impl_Field_mul.calls k1 a0_0 a0_1 x1_1 x1_1 t437 _ A8.out).mono ?_); rintro e w10 ⟨rfl, hb⟩; refine ⟨_, rfl, ?_⟩; have n0_ := Aq.mk (kQB (g := gb436) (o := .cells #[.int .i64 a0_0, .int .i64 a0_1] 29 (0, 0)) (by (with_reducible repeat (first | refine kQN ?_ _ | refine kQD ?_ | refine kQA ?_ _)); exact BK436.out) hb); have n1_ := Aq.mk (bQT (by repeat (first | (with_reducible first | exact HB.out | apply bQA | apply bQN | apply bQ1 | refine bQS ?_ GE436.out) | exact HB.out)) hb); clear BK436; clear HB; have BK436 := n0_; have HB := n1_; clear n0_ n1_; (try clear hb); (try clear hb2); (try clear hk); (try clear hi)))
     go_roundg k1
     case measure => have := HK1.out; omega
     case rel => exact ⟨(t437), (wrap64 (x11_1 + 1)), (by first | rfl | (simp; done) | (simp [*]; done)), (by first | rfl | (simp; done) | (simp [*]; done)), H', ⟨by have := HK1.out; omega⟩, ⟨by (with_reducible repeat (first | refine kQN ?_ _ | refine kQD ?_ | refine kQA ?_ _)); exact BK436.out⟩, ⟨by repeat (first | (with_reducible first | exact HB.out | apply bQA | apply bQN | apply bQ1 | refine bQS ?_ GE436.out) | exact HB.out)⟩⟩
    ·rw [if_neg c7] at H
     have c7b0 : decide (x11_1 < (Int.tmod a2 a0_0)) = false := decide_eq_false c7
     clear c7
     obtain rfl := Option.some.inj H
     go_wp2
     go_ret
     exact ⟨by first | rfl | (simp [errW_none, errW_some] <;> rfl) | (simp [*, errW_none, errW_some] <;> rfl), by repeat (first | (with_reducible first | exact HB.out | apply bQA | apply bQN | apply bQ1 | refine bQS ?_ GE436.out) | exact HB.out)⟩
end Go.Proofs.Ytngiionckbmkmaa.P
