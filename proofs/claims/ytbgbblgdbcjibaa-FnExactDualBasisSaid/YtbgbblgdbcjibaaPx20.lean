/- Functions of the program and what they tell, as the printing program wrote it. -/
import Derived.Test.YtbgbblgdbcjibaaPx0
import Derived.Test.YtbgbblgdbcjibaaPx7
namespace Go.Proofs.Ytbgbblgdbcjibaa.P
open Go.Shelf Go.RowKit Go.Proofs.YtbgbblgdbcjibaaW.PrintWords Go.Proofs.YtbgbblgdbcjibaaW.PrintLast Go.Proofs.YtbgbblgdbcjibaaW.PrintMore
attribute [local go_sem] max2_int min2_int max_two min_two max_three min_three max_four min_four
set_option linter.unusedVariables false
set_option linter.unusedSimpArgs false
set_option maxHeartbeats 8000000
set_option maxRecDepth 100000
def spec_l01Trace.l0 : Nat → Int → Int → Int → Int → Int → Option (Int)
  | 0, _, _, _, _, _ => none
  | k + 1, x1, x5, x6, x332000, x332001 => if x6 < x332000 then ((spec_l01Square.f k x332000 x332001 x1 x6).bind fun t332 => (spec_l01Trace.l0 k x1 (Go.bits .xor .i64 x5 t332) (wrap64 (x6 + 1)) x332000 x332001)) else (some x5)
def spec_l01Trace.f (k : Nat) (a0_0 : Int) (a0_1 : Int) (a1 : Int) : Option (Int) := spec_l01Trace.l0 k a1 0 0 a0_0 a0_1
theorem spec_l01Trace.mono_l : ∀ k, (∀ y0 y1 y2 y3 y4, LeO (spec_l01Trace.l0 k y0 y1 y2 y3 y4) (spec_l01Trace.l0 (k + 1) y0 y1 y2 y3 y4))
 | 0 => fun _ _ _ _ _ r h => by simp [spec_l01Trace.l0] at h
 | k + 1 => by
  have ih0 := spec_l01Trace.mono_l k
  ·intro y0 y1 y2 y3 y4
   unfold spec_l01Trace.l0
   repeat' first
   | (with_reducible first | apply ih0 | apply spec_l01Square.mono | exact LeO.refl _ | exact LeO.none _ | refine LeO.ite ?_ ?_ | refine LeO.bind ?_ (fun _ => ?_))
   | exact LeO.none _
   | refine LeO.ite ?_ ?_
   | refine LeO.bind ?_ (fun _ => ?_)
theorem spec_l01Trace.mono : ∀ a0 a1 a2 k, LeO (spec_l01Trace.f k a0 a1 a2) (spec_l01Trace.f (k + 1) a0 a1 a2) := by
 intro a0 a1 a2 k
 have ih0 := spec_l01Trace.mono_l k
 unfold spec_l01Trace.f
 repeat' first
  | (with_reducible first | apply ih0 | apply spec_l01Square.mono | exact LeO.refl _ | exact LeO.none _ | refine LeO.ite ?_ ?_ | refine LeO.bind ?_ (fun _ => ?_))
  | exact LeO.none _
  | refine LeO.ite ?_ ?_
  | refine LeO.bind ?_ (fun _ => ?_)
theorem spec_l01Trace.calls (k : Nat) (a0_0 : Int) (a0_1 : Int) (a1 : Int) (r : Int) (w : World) (h : spec_l01Trace.f k a0_0 a0_1 a1 = some r) :
 Calls Try.prog 47 #[.agg #[.int .i64 a0_0, .int .i64 a0_1], .int .i64 a1] w fun e w' => e = .returned (.int .i64 r) ∧ Below w.heap.size w w' := by
 have hu26 := Try.underlying26
 have HB := Aq.mk (Below.refl w.heap.size w)
 have H : (spec_l01Trace.l0 k a1 0 0 a0_0 a0_1) = some r := h
 clear h
 replace H' := Aq.mk H
 clear H
 go_enter Try.func47, Try.ntmps47
 go_wp2_with (first | ((with_reducible refine gQd (N := 2) rfl ?_); refine xQe ?hg (N := 2) ?hd (cs := #[.int .i64 a0_0, .int .i64 a0_1]) (t := 26) ?hr ?_; (case hd => rfl); (case hg => rfl); (case hr => exact tH); intro gb331 hg w3 hbox hb; refine qM4 (bQT tB hb) hbox (tZ w hg) (tZ w hg) ?_; clear HB; intro HB BK331 GW331 GE331; clear hb hbox hg))
 go_loopg [5, 6] k (fun kq v5 v6 w' => ∃ (x5_1 : Int) (x6_1 : Int), v5 = .int .i64 x5_1 ∧ v6 = .int .i64 x6_1 ∧ Aq (spec_l01Trace.l0 kq a1 x5_1 x6_1 a0_0 a0_1 = some r) ∧ Aq (kq ≤ k) ∧ Aq (w'.heap[gb331]? = some (.cells #[.int .i64 a0_0, .int .i64 a0_1] 26 (0, 0))) ∧ Aq (Below w.heap.size w w'))
 case atStart => exact ⟨(0), (0), tS, tS, H', ⟨Nat.le_refl _⟩, ⟨tG BK331.out⟩, ⟨tB⟩⟩
 clear H'
 obtain ⟨x5_1, x6_1, rfl, rfl, HA, HK1, BK331, HB⟩ := hrel
 cases gk with
 | zero => exact absurd HA.out (by simp [spec_l01Trace.l0])
 | succ k1 =>
  have H := HA.out
  clear HA
  simp only [spec_l01Trace.l0] at H
  by_cases c4 : x6_1 < a0_0
  rotate_left
  ·rw [if_neg c4] at H
   have c4b0 := decide_eq_false c4
   clear c4
   obtain rfl := Option.some.inj H
   have hcz8_0 : wr.cell? ⟨gb331, 0, none⟩ = some (.int .i64 a0_0) := (kQC BK331.out 0).trans rfl
   have hcz8_1 : wr.cell? ⟨gb331, 1, none⟩ = some (.int .i64 a0_1) := (kQC BK331.out 1).trans rfl
   have hfz8_0 := kQF BK331.out 0
   have hfz8_1 := kQF BK331.out 1
   go_wp2
   go_ret
   exact ⟨tE, tB⟩
  rw [if_pos c4] at H
  have c4b0 := decide_eq_true c4
  clear c4
  obtain ⟨t332, A5, H⟩ := qBd H
  replace H' := Aq.mk H
  clear H
  have hcz6_0 : wr.cell? ⟨gb331, 0, none⟩ = some (.int .i64 a0_0) := (kQC BK331.out 0).trans rfl
  have hcz6_1 : wr.cell? ⟨gb331, 1, none⟩ = some (.int .i64 a0_1) := (kQC BK331.out 1).trans rfl
  have hfz6_0 := kQF BK331.out 0
  have hfz6_1 := kQF BK331.out 1
  go_wp2_with (first | ((with_reducible refine gQc (f := 37) rfl ?_); refine goesL_ (some 17) rfl rfl Try.func37 (by kernel_rfl) rfl #[.agg #[.int .i64 a0_0, .int .i64 a0_1], .int .i64 a1, .int .i64 x6_1] rfl tL ?_; (with_reducible refine (spec_l01Square.calls k1 a0_0 a0_1 a1 x6_1 t332 _ A5.out).mono ?_); rintro e w7 ⟨rfl, hb⟩; refine ⟨_, rfl, ?_⟩; refine qM2 (tQ BK331.out hb) (bQT tB hb) ?_; clear BK331 HB; intro BK331 HB; (try clear hb); (try clear hb2); (try clear hk); (try clear hi)))
  go_roundg k1
  case measure => have := HK1.out; omega
  case rel => exact ⟨(Go.bits .xor .i64 x5_1 t332), (wrap64 (x6_1 + 1)), tS, tS, H', ⟨by have := HK1.out; omega⟩, ⟨tG BK331.out⟩, ⟨tB⟩⟩
end Go.Proofs.Ytbgbblgdbcjibaa.P
