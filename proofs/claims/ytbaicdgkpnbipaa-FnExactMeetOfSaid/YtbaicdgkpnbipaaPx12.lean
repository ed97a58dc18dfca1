/- Printed functions. -/
import Derived.Test.YtbaicdgkpnbipaaPx0
import Derived.Test.YtbaicdgkpnbipaaPx4
import Derived.Test.YtbaicdgkpnbipaaPx9
namespace Go.Proofs.Ytbaicdgkpnbipaa.P
open Go.Shelf Go.RowKit Go.Proofs.YtbaicdgkpnbipaaW.PrintWords Go.Proofs.YtbaicdgkpnbipaaW.PrintLast Go.Proofs.YtbaicdgkpnbipaaW.PrintMore
attribute [local go_sem] max2_int min2_int max_two min_two max_three min_three max_four min_four
set_option linter.unusedVariables false
set_option linter.unusedSimpArgs false
def qaw.l0 : Nat → Int → Int → Option (Int)
  | 0, _, _ => none
  | k + 1, x0, x3 => if 0 ≤ x3 then (if (Go.bits .and .i64 (shr .i64 x0 x3) 1) = 0 then (qaw.l0 k x0 (wrap64 (x3 + 1))) else (some x3)) else (none)
def qaw.f (k : Nat) (a0 : Int) : Option (Int) := qaw.l0 k a0 0
theorem qaw.mono_l : ∀ k, (∀ y0 y1, LeO (qaw.l0 k y0 y1) (qaw.l0 (k + 1) y0 y1))
 | 0 => fun _ _ r h => by simp [qaw.l0] at h
 | k + 1 => by
  have ih0 := qaw.mono_l k
  ·intro y0 y1
   unfold qaw.l0
   repeat' first
   | (with_reducible first | exact ih0 _ _ | exact LeO.refl _ | exact LeO.none _ | refine LeO.ite ?_ ?_ | refine LeO.bind ?_ (fun _ => ?_))
   | exact LeO.none _
   | refine LeO.ite ?_ ?_
   | refine LeO.bind ?_ (fun _ => ?_)
theorem qaw.mono : ∀ a0 k, LeO (qaw.f k a0) (qaw.f (k + 1) a0) := by
 intro a0 k
 have ih0 := qaw.mono_l k
 unfold qaw.f
 repeat' first
  | (with_reducible first | exact ih0 _ _ | exact LeO.refl _ | exact LeO.none _ | refine LeO.ite ?_ ?_ | refine LeO.bind ?_ (fun _ => ?_))
  | exact LeO.none _
  | refine LeO.ite ?_ ?_
  | refine LeO.bind ?_ (fun _ => ?_)
set_option maxHeartbeats 8000000 in
set_option maxRecDepth 100000 in
theorem qaw.calls (k : Nat) (a0 : Int) (r : Int) (w : World) (h : qaw.f k a0 = some r) :
 Calls Try.prog 99 #[.int .i64 a0] w fun e w' => e = .returned (.int .i64 r) ∧ Dq w w' := by
 have H : (qaw.l0 k a0 0) = some r := h
 clear h
 have H' := Aq.mk H
 clear H
 go_enter Try.func99, Try.ntmps99
 go_wp2
 go_loopg [3] k (fun kq v3 w' => ∃ (x3_1 : Int), v3 = .int .i64 x3_1 ∧ Aq (qaw.l0 kq a0 x3_1 = some r) ∧ Aq (kq ≤ k) ∧ Dq w w')
 case atStart => exact ⟨(0), (by first | rfl | (simp; done) | (simp [*]; done)), H', ⟨Nat.le_refl _⟩, by repeat (first | exact Dq.refl _ | apply Dq.step)⟩
 case round =>
  clear H'
  obtain ⟨x3_1, rfl, HA, HK1, ⟨m1, rfl⟩⟩ := hrel
  cases gk with
  | zero => exact absurd HA.out (by simp [qaw.l0])
  | succ k1 =>
   have H := HA.out
   clear HA
   simp only [qaw.l0] at H
   by_cases c2 : 0 ≤ x3_1
   ·rw [if_pos c2] at H
    have c2b0 := eq_true c2
    have c2b1 : decide (0 ≤ x3_1) = true := decide_eq_true c2
    clear c2
    obtain ⟨ji3, hji3⟩ : ∃ j_ : Int, (shr .i64 a0 x3_1) = j_ := ⟨_, rfl⟩
    replace H : (if (Go.bits .and .i64 (ji3) 1) = 0 then (qaw.l0 k1 a0 (wrap64 (x3_1 + 1))) else (some x3_1)) = some r := by first | (rw [hji3] at H; exact H) | (simp only [hji3] at H ⊢; exact H)
    have hji3_ : (a0 / 2 ^ min x3_1.toNat 64) = ji3 := hji3
    have hji3z : x3_1 ≤ 64 → (a0 / 2 ^ x3_1.toNat) = ji3 := shr_small hji3
    by_cases c4 : (Go.bits .and .i64 (ji3) 1) = 0
    ·rw [if_pos c4] at H
     have c4b0 : ((Go.bits .and .i64 (ji3) 1) == 0) = true := beq_iff_eq.mpr c4
     have c4b1 : ((Go.bits .and .i64 (ji3) 1) != 0) = false := bne_eq_false_iff_eq.mpr c4
     clear c4
     have H' := Aq.mk H
     clear H
     go_wp2
     go_roundg k1
     case measure => have := HK1.out; omega
     case rel => exact ⟨(wrap64 (x3_1 + 1)), (by first | rfl | (simp; done) | (simp [*]; done)), H', ⟨by have := HK1.out; omega⟩, by repeat (first | exact Dq.refl _ | apply Dq.step)⟩
    ·rw [if_neg c4] at H
     have c4b0 : ((Go.bits .and .i64 (ji3) 1) == 0) = false := beq_eq_false_iff_ne.mpr c4
     have c4b1 : ((Go.bits .and .i64 (ji3) 1) != 0) = true := bne_iff_ne.mpr c4
     obtain rfl := Option.some.inj H
     go_wp2
     go_ret
     exact ⟨by first | rfl | (simp; done) | (simp only [← hji3] <;> (first | rfl | simp)) | (simp [*]; done), by repeat (first | exact Dq.refl _ | apply Dq.step)⟩
   ·rw [if_neg c2] at H
    exact absurd H (by simp)
mutual
def qae.l0 : Nat → List Int → Int → List Int → Int → Int → Int → List Int → Option (Int × List Int)
  | 0, _, _, _, _, _, _, _ => none
  | k + 1, x3, x4, x15, x16, x17, x202000, x202001 => if x17 < x16 then (if 0 ≤ x17 then (if x17 < (x15.length : Int) then ((qaw.f k (rd x15 x17)).bind fun t207 => (if 0 ≤ t207 then (qae.l0 k x3 (Go.bits .or .i64 x4 (shl .i64 1 t207)) x15 x16 (wrap64 (x17 + 1)) x202000 x202001) else (none))) else (none)) else (none)) else (qae.l1 k x3 x4 x202000 0 x202000 ([] : List Int))
def qae.l1 : Nat → List Int → Int → Int → Int → Int → List Int → Option (Int × List Int)
  | 0, _, _, _, _, _, _ => none
  | k + 1, x3, x4, x31, x32, x209000, x209001 => if x32 < x31 then (if 0 ≤ x32 then (if (Go.bits .and .i64 (shr .i64 x4 x32) 1) = 1 then (qae.l1 k x3 x4 x31 (wrap64 (x32 + 1)) x209000 x209001) else (qae.l2 k x3 x4 x32 (shl .i64 1 x32) x31 x32 x3 (x3.length : Int) 0 x209000 x209001)) else (none)) else ((qa2.f k x209000 x209001).bind fun bt209 => (some (bt209.1, bt209.2)))
def qae.l2 : Nat → List Int → Int → Int → Int → Int → Int → List Int → Int → Int → Int → List Int → Option (Int × List Int)
  | 0, _, _, _, _, _, _, _, _, _, _, _ => none
  | k + 1, x3, x4, x8, x9, x31, x32, x42, x43, x44, x209000, x209001 => if x44 < x43 then (if 0 ≤ x44 then (if x44 < (x42.length : Int) then (if 0 ≤ x8 then (if (Go.bits .and .i64 (shr .i64 (rd x42 x44) x8) 1) = 1 then ((qaw.f k (rd x42 x44)).bind fun t214 => (if 0 ≤ t214 then (qae.l2 k x3 x4 x8 (Go.bits .or .i64 x9 (shl .i64 1 t214)) x31 x32 x42 x43 (wrap64 (x44 + 1)) x209000 x209001) else (none))) else (qae.l2 k x3 x4 x8 x9 x31 x32 x42 x43 (wrap64 (x44 + 1)) x209000 x209001)) else (none)) else (none)) else (none)) else (if x209001.length < 17592186044416 then (qae.l1 k x3 x4 x31 (wrap64 (x32 + 1)) x209000 (x209001 ++ [x9])) else (none))
end
def qae.f (k : Nat) (a0_0 : Int) (l0_1 : List Int) : Option (Int × List Int) := (qaf.f k l0_1).bind fun t203 => (qae.l0 k t203 0 t203 (t203.length : Int) 0 a0_0 l0_1)
theorem qae.mono_l : ∀ k, (∀ y0 y1 y2 y3 y4 y5 y6, LeO (qae.l0 k y0 y1 y2 y3 y4 y5 y6) (qae.l0 (k + 1) y0 y1 y2 y3 y4 y5 y6)) ∧ (∀ y0 y1 y2 y3 y4 y5, LeO (qae.l1 k y0 y1 y2 y3 y4 y5) (qae.l1 (k + 1) y0 y1 y2 y3 y4 y5)) ∧ (∀ y0 y1 y2 y3 y4 y5 y6 y7 y8 y9 y10, LeO (qae.l2 k y0 y1 y2 y3 y4 y5 y6 y7 y8 y9 y10) (qae.l2 (k + 1) y0 y1 y2 y3 y4 y5 y6 y7 y8 y9 y10))
 | 0 => ⟨fun _ _ _ _ _ _ _ r h => by simp [qae.l0] at h, fun _ _ _ _ _ _ r h => by simp [qae.l1] at h, fun _ _ _ _ _ _ _ _ _ _ _ r h => by simp [qae.l2] at h⟩
 | k + 1 => by
  obtain ⟨ih0, ih1, ih2⟩ := qae.mono_l k
  refine ⟨?_, ?_, ?_⟩
  ·intro y0 y1 y2 y3 y4 y5 y6
   unfold qae.l0
   repeat' first
   | (with_reducible first | exact ih0 _ _ _ _ _ _ _ | exact ih1 _ _ _ _ _ _ | exact ih2 _ _ _ _ _ _ _ _ _ _ _ | exact qa2.mono _ _ _ | exact qaf.mono _ _ | exact qaw.mono _ _ | exact LeO.refl _ | exact LeO.none _ | refine LeO.ite ?_ ?_ | refine LeO.bind ?_ (fun _ => ?_))
   | exact LeO.none _
   | refine LeO.ite ?_ ?_
   | refine LeO.bind ?_ (fun _ => ?_)
  ·intro y0 y1 y2 y3 y4 y5
   unfold qae.l1
   repeat' first
   | (with_reducible first | exact ih0 _ _ _ _ _ _ _ | exact ih1 _ _ _ _ _ _ | exact ih2 _ _ _ _ _ _ _ _ _ _ _ | exact qa2.mono _ _ _ | exact qaf.mono _ _ | exact qaw.mono _ _ | exact LeO.refl _ | exact LeO.none _ | refine LeO.ite ?_ ?_ | refine LeO.bind ?_ (fun _ => ?_))
   | exact LeO.none _
   | refine LeO.ite ?_ ?_
   | refine LeO.bind ?_ (fun _ => ?_)
  ·intro y0 y1 y2 y3 y4 y5 y6 y7 y8 y9 y10
   unfold qae.l2
   repeat' first
   | (with_reducible first | exact ih0 _ _ _ _ _ _ _ | exact ih1 _ _ _ _ _ _ | exact ih2 _ _ _ _ _ _ _ _ _ _ _ | exact qa2.mono _ _ _ | exact qaf.mono _ _ | exact qaw.mono _ _ | exact LeO.refl _ | exact LeO.none _ | refine LeO.ite ?_ ?_ | refine LeO.bind ?_ (fun _ => ?_))
   | exact LeO.none _
   | refine LeO.ite ?_ ?_
   | refine LeO.bind ?_ (fun _ => ?_)
theorem qae.mono : ∀ a0 a1 k, LeO (qae.f k a0 a1) (qae.f (k + 1) a0 a1) := by
 intro a0 a1 k
 obtain ⟨ih0, ih1, ih2⟩ := qae.mono_l k
 unfold qae.f
 repeat' first
  | (with_reducible first | exact ih0 _ _ _ _ _ _ _ | exact ih1 _ _ _ _ _ _ | exact ih2 _ _ _ _ _ _ _ _ _ _ _ | exact qa2.mono _ _ _ | exact qaf.mono _ _ | exact qaw.mono _ _ | exact LeO.refl _ | exact LeO.none _ | refine LeO.ite ?_ ?_ | refine LeO.bind ?_ (fun _ => ?_))
  | exact LeO.none _
  | refine LeO.ite ?_ ?_
  | refine LeO.bind ?_ (fun _ => ?_)
set_option maxHeartbeats 8000000 in
set_option maxRecDepth 100000 in
theorem qae.calls (k : Nat) (a0_0 : Int) (A0_1 : Option Addr) (c0_1 : Nat) (l0_1 : List Int) (r1 : Int) (r2 : List Int) (w : World) (hr0_1 : Kd.C (Kd.int .i64) w A0_1 l0_1.length l0_1) (hc0_1 : l0_1.length ≤ c0_1) (h : qae.f k a0_0 l0_1 = some (r1, r2)) :
 Calls Try.prog 57 #[.agg #[.int .i64 a0_0, .slice A0_1 l0_1.length c0_1]] w fun e w' => ∃ v1_ : Value, e = .returned (.agg #[.int .i64 r1, v1_]) ∧ Kd.R (Kd.int .i64) 2 w' w.heap.size (fun _ => True) v1_ r2 ∧ Below w.heap.size w w' := by
 have hu26 := Try.underlying26
 have HR0_1 := Aq.mk hr0_1
 have HC0_1 := Aq.mk hc0_1
 clear hr0_1 hc0_1
 have HB := Aq.mk (Below.refl w.heap.size w)
 have H : ((qaf.f k l0_1).bind fun t203 => (qae.l0 k t203 0 t203 (t203.length : Int) 0 a0_0 l0_1)) = some (r1, r2) := h
 clear h
 replace H := Option.bind_eq_some_iff.mp H
 obtain ⟨t203, A20, H⟩ := H
 replace H : (qae.l0 k t203 0 t203 (t203.length : Int) 0 a0_0 l0_1) = some (r1, r2) := H
 have A2 := Aq.mk A20
 clear A20
 have H' := Aq.mk H
 clear H
 go_enter Try.func57, Try.ntmps57
 go_wp2_with (first | ((with_reducible refine gQd (N := 1) rfl ?_); refine xQe ?hg (N := 1) ?hd (cs := #[.int .i64 a0_0, .slice A0_1 l0_1.length c0_1]) (t := 26) ?hr ?_; (case hd => rfl); (case hg => rfl); (case hr => first | (go_simp; done) | (go_simp; rfl)); intro gb201 hg w3 hbox hb; have BK201 := Aq.mk (hbox); have GW201 := Aq.mk ((by rw [hg]; exact (bQZ (by repeat (with_reducible first | exact HB.out | apply bQA | apply bQN | apply bQ1))) : w.heap.size ≤ gb201)); have GE201 := Aq.mk ((by rw [hg]; exact (bQZ (by repeat (with_reducible first | exact HB.out | apply bQA | apply bQN | apply bQ1))) : w.heap.size ≤ gb201)); replace HB := Aq.mk (bQT (by repeat (with_reducible first | exact HB.out | apply bQA | apply bQN | apply bQ1)) hb); clear hb hbox hg) | ((with_reducible refine gQd (N := 2) rfl ?_); refine xQe ?hg (N := 2) ?hd (cs := #[.int .i64 0, .slice none 0 0]) (t := 26) ?hr ?_; (case hd => rfl); (case hg => rfl); (case hr => first | (go_simp; done) | (go_simp; rfl)); intro gb202 hg w4 hbox hb; have BK202 := Aq.mk (hbox); have GW202 := Aq.mk ((by rw [hg]; exact (bQZ (by repeat (with_reducible first | exact HB.out | apply bQA | apply bQN | apply bQ1 | refine bQS ?_ GE201.out))) : w.heap.size ≤ gb202)); have GE202 := Aq.mk ((by rw [hg]; exact (bQZ (by repeat (with_reducible first | exact HB.out | apply bQA | apply bQN | apply bQ1 | refine bQS ?_ GE201.out))) : w.heap.size ≤ gb202)); replace HB := Aq.mk (bQT (by repeat (with_reducible first | exact HB.out | apply bQA | apply bQN | apply bQ1 | refine bQS ?_ GE201.out)) hb); have NB201_202 := Aq.mk ((by rw [hg]; exact Nat.ne_of_lt (qbo (g := gb201) (o := .cells #[.int .i64 a0_0, .slice A0_1 l0_1.length c0_1] 26 (0, 0)) (by (with_reducible repeat (first | refine kQN ?_ _ | refine kQD ?_ | refine kQA ?_ _)); exact BK201.out)) : gb201 ≠ gb202)); have NB202_201 := Aq.mk ((by rw [hg]; exact Nat.ne_of_gt (qbo (g := gb201) (o := .cells #[.int .i64 a0_0, .slice A0_1 l0_1.length c0_1] 26 (0, 0)) (by (with_reducible repeat (first | refine kQN ?_ _ | refine kQD ?_ | refine kQA ?_ _)); exact BK201.out)) : gb202 ≠ gb201)); replace BK201 := Aq.mk (kQB (g := gb201) (o := .cells #[.int .i64 a0_0, .slice A0_1 l0_1.length c0_1] 26 (0, 0)) (by (with_reducible repeat (first | refine kQN ?_ _ | refine kQD ?_ | refine kQA ?_ _)); exact BK201.out) hb); clear hb hbox hg; have hnb5 := NB201_202.out; have hnc5 := NB202_201.out; have hcz6_0 : w4.cell? ⟨gb201, 0, none⟩ = some (.int .i64 a0_0) := (kQC BK201.out 0).trans rfl; have hcz6_1 : w4.cell? ⟨gb201, 1, none⟩ = some (.slice A0_1 l0_1.length c0_1) := (kQC BK201.out 1).trans rfl; have hfz6_0 := kQF BK201.out 0; have hfz6_1 := kQF BK201.out 1) | ((with_reducible refine gQc (f := 66) rfl ?_); refine qbz (some 14) rfl rfl Try.func66 (by kernel_rfl) rfl #[.slice A0_1 l0_1.length c0_1] rfl (by (try simp only [List.map_toArray, List.map_cons, List.map_nil]); first | done | rfl | (simp only [List.length_drop, List.length_take]; rfl)) ?_; (with_reducible refine (qaf.calls k _ _ l0_1 t203 _ ?side1 ?side2 A2.out).mono ?_); (case side1 => repeat (first | exact (Kd.qbt HR0_1.out HB.out) | (with_reducible refine Kd.CqA ?_ _) | (with_reducible refine Kd.CqN ?_ _) | (with_reducible refine Kd.CqD ?_))); (case side2 => exact HC0_1.out); rintro e w7 ⟨v204, rfl, ho0, hb⟩; refine ⟨_, rfl, ?_⟩; have HO205 := Aq.mk (Kd.qbx ho0 (bQZ (by repeat (with_reducible first | exact HB.out | apply bQA | apply bQN | apply bQ1 | refine bQS ?_ GE201.out | refine bQS ?_ GE202.out)))); replace BK201 := Aq.mk (kQB (g := gb201) (o := .cells #[.int .i64 a0_0, .slice A0_1 l0_1.length c0_1] 26 (0, 0)) (by (with_reducible repeat (first | refine kQN ?_ _ | refine kQD ?_ | refine kQA ?_ _)); exact BK201.out) hb); replace BK202 := Aq.mk (kQB (g := gb202) (o := .cells #[.int .i64 0, .slice none 0 0] 26 (0, 0)) (by (with_reducible repeat (first | refine kQN ?_ _ | refine kQD ?_ | refine kQA ?_ _)); exact BK202.out) hb); replace HB := Aq.mk (bQT (by repeat (with_reducible first | exact HB.out | apply bQA | apply bQN | apply bQ1 | refine bQS ?_ GE201.out | refine bQS ?_ GE202.out)) hb); (try clear hb); (try clear hb2); (try clear hk); (try clear hi); (try clear ho0); obtain ⟨Ao8, co8, eo8⟩ := Kd.qbw HO205.out; subst eo8))
 go_loopg [4, 17] k (fun kq v4 v17 w' => ∃ (x4_1 : Int) (x17_1 : Int), v4 = .int .i64 x4_1 ∧ v17 = .int .i64 x17_1 ∧ Aq (qae.l0 kq t203 x4_1 t203 (t203.length : Int) x17_1 a0_0 l0_1 = some (r1, r2)) ∧ Aq (kq ≤ k) ∧ Aq (Kd.R (Kd.int .i64) 2 w' w.heap.size (fun _ => True) (.slice Ao8 t203.length co8) t203) ∧ Aq (Kd.R (Kd.int .i64) 2 w' w.heap.size (fun _ => True) (.slice Ao8 t203.length co8) t203) ∧ Aq (w'.heap[gb201]? = some (.cells #[.int .i64 a0_0, (.slice A0_1 l0_1.length c0_1)] 26 (0, 0))) ∧ Aq (w'.heap[gb202]? = some (.cells #[.int .i64 0, (.slice none 0 0)] 26 (0, 0))) ∧ Aq (Below w.heap.size w w'))
 case atStart => exact ⟨(0), (0), (by first | rfl | (simp; done) | (simp [*]; done)), (by first | rfl | (simp; done) | (simp [*]; done)), H', ⟨Nat.le_refl _⟩, ⟨by (with_reducible repeat (first | apply rA | apply rN | apply rD)); exact HO205.out⟩, ⟨by (with_reducible repeat (first | apply rA | apply rN | apply rD)); exact HO205.out⟩, ⟨by (with_reducible repeat (first | refine kQN ?_ _ | refine kQD ?_ | refine kQA ?_ _)); exact BK201.out⟩, ⟨by (with_reducible repeat (first | refine kQN ?_ _ | refine kQD ?_ | refine kQA ?_ _)); exact BK202.out⟩, ⟨by repeat (first | (with_reducible first | exact HB.out | apply bQA | apply bQN | apply bQ1 | refine bQS ?_ GE201.out | refine bQS ?_ GE202.out) | exact HB.out)⟩⟩
 case round =>
  clear H'
  try clear p2
  try clear c5
  try clear c6
  try clear hcz6_0
  try clear hcz6_1
  try clear hfz6_0
  try clear hfz6_1
  obtain ⟨x4_1, x17_1, rfl, rfl, HA, HK1, HO_3, HO_15, BK201, BK202, HB⟩ := hrel
  cases gk with
  | zero => exact absurd HA.out (by simp [qae.l0])
  | succ k1 =>
   have H := HA.out
   clear HA
   simp only [qae.l0] at H
   by_cases c9 : x17_1 < (t203.length : Int)
   ·rw [if_pos c9] at H
    have c9b0 : decide (x17_1 < (t203.length : Int)) = true := decide_eq_true c9
    clear c9
    by_cases c10 : 0 ≤ x17_1
    ·rw [if_pos c10] at H
     have c10b0 : decide (0 ≤ x17_1) = true := decide_eq_true c10
     clear c10
     by_cases c11 : x17_1 < (t203.length : Int)
     ·rw [if_pos c11] at H
      have c11b0 : decide (x17_1 < (t203.length : Int)) = true := decide_eq_true c11
      clear c11
      replace H := Option.bind_eq_some_iff.mp H
      obtain ⟨t207, A120, H⟩ := H
      replace H : (if 0 ≤ t207 then (qae.l0 k1 t203 (Go.bits .or .i64 x4_1 (shl .i64 1 t207)) t203 (t203.length : Int) (wrap64 (x17_1 + 1)) a0_0 l0_1) else (none)) = some (r1, r2) := H
      have A12 := Aq.mk A120
      clear A120
      by_cases c13 : 0 ≤ t207
      ·rw [if_pos c13] at H
       have c13b0 := eq_true c13
       have c13b1 : decide (0 ≤ t207) = true := decide_eq_true c13
       clear c13
       obtain ⟨ji14, hji14⟩ : ∃ j_ : Int, (shl .i64 1 t207) = j_ := ⟨_, rfl⟩
       replace H : (qae.l0 k1 t203 (Go.bits .or .i64 x4_1 (ji14)) t203 (t203.length : Int) (wrap64 (x17_1 + 1)) a0_0 l0_1) = some (r1, r2) := by first | (rw [hji14] at H; exact H) | (simp only [hji14] at H ⊢; exact H)
       (try rw [hji14] at A12)
       have hji14_ : (IntKind.i64.wrap (1 * 2 ^ min t207.toNat 64)) = ji14 := hji14
       have hji14z : t207 ≤ 64 → (IntKind.i64.wrap (1 * 2 ^ t207.toNat)) = ji14 := shl_small hji14
       have hji14u : (IntKind.i64.wrap (2 ^ min t207.toNat 64)) = ji14 := by have h_ := hji14_; rw [Int.one_mul] at h_; exact h_
       have hji14v : t207 ≤ 64 → (IntKind.i64.wrap (2 ^ t207.toNat)) = ji14 := fun hle_ => by have h_ := hji14z hle_; rw [Int.one_mul] at h_; exact h_
       have hji14y : (wrap64 (1 * 2 ^ min t207.toNat 64)) = ji14 := (qbl _).symm.trans hji14_
       have hji14x : t207 ≤ 64 → (wrap64 (1 * 2 ^ t207.toNat)) = ji14 := fun h_ => (qbl _).symm.trans (hji14z h_)
       have H' := Aq.mk H
       clear H
       have p206 : 0 ≤ (x17_1 : Int) := of_decide_eq_true (by first | (with_reducible assumption) | assumption)
       have q206 : x17_1 < (t203.length : Int) := of_decide_eq_true (by first | (with_reducible assumption) | assumption)
       obtain ⟨ad206, e206, hx206_0⟩ := Kd.at_int (Kd.qbi HO_15.out).2.2 x17_1 p206 q206
       cases e206
       replace p206 := eq_true p206
       replace q206 := eq_true q206
       go_wp2_with (first | ((with_reducible refine gQc (f := 99) rfl ?_); refine qbz (some 23) rfl rfl Try.func99 (by kernel_rfl) rfl #[.int .i64 (rd t203 x17_1)] rfl (by (try simp only [List.map_toArray, List.map_cons, List.map_nil]); first | done | rfl | (simp only [List.length_drop, List.length_take]; rfl)) ?_; (with_reducible refine (qaw.calls k1 (rd t203 x17_1) t207 _ A12.out).mono ?_); rintro e w' ⟨rfl, ⟨nd, rfl⟩⟩; refine ⟨_, rfl, ?_⟩))
       go_roundg k1
       case measure => have := HK1.out; omega
       case rel => exact ⟨(Go.bits .or .i64 x4_1 (ji14)), (wrap64 (x17_1 + 1)), (by first | rfl | (simp; done) | (simp only [← hji14] <;> (first | rfl | simp)) | (simp [*]; done)), (by first | rfl | (simp; done) | (simp [*]; done)), H', ⟨by have := HK1.out; omega⟩, ⟨by (with_reducible repeat (first | apply rA | apply rN | apply rD)); exact HO_3.out⟩, ⟨by (with_reducible repeat (first | apply rA | apply rN | apply rD)); exact HO_15.out⟩, ⟨by (with_reducible repeat (first | refine kQN ?_ _ | refine kQD ?_ | refine kQA ?_ _)); exact BK201.out⟩, ⟨by (with_reducible repeat (first | refine kQN ?_ _ | refine kQD ?_ | refine kQA ?_ _)); exact BK202.out⟩, ⟨by repeat (first | (with_reducible first | exact HB.out | apply bQA | apply bQN | apply bQ1 | refine bQS ?_ GE201.out | refine bQS ?_ GE202.out) | exact HB.out)⟩⟩
      ·rw [if_neg c13] at H
       exact absurd H (by simp)
     ·rw [if_neg c11] at H
      exact absurd H (by simp)
    ·rw [if_neg c10] at H
     exact absurd H (by simp)
   ·rw [if_neg c9] at H
    have c9b0 : decide (x17_1 < (t203.length : Int)) = false := decide_eq_false c9
    clear c9
    have H' := Aq.mk H
    clear H
    have hnb15 := NB201_202.out
    have hnc15 := NB202_201.out
    have hcz16_0 : wr.cell? ⟨gb201, 0, none⟩ = some (.int .i64 a0_0) := (kQC BK201.out 0).trans rfl
    have hcz16_1 : wr.cell? ⟨gb201, 1, none⟩ = some (.slice A0_1 l0_1.length c0_1) := (kQC BK201.out 1).trans rfl
    have hfz16_0 := kQF BK201.out 0
    have hfz16_1 := kQF BK201.out 1
    go_wp2_with (first | ((with_reducible refine gQd (N := 7) rfl ?_); refine xQe ?hg (N := 7) ?hd (cs := #[.int .i64 0, .slice none 0 0]) (t := 26) ?hr ?_; (case hd => rfl); (case hg => rfl); (case hr => first | (go_simp; done) | (go_simp; rfl)); intro gb208 hg w17 hbox hb; replace HO_3 := Aq.mk (Kd.qbk (by (with_reducible repeat (first | apply rA | apply rN | apply rD)); exact HO_3.out) hb); replace HO_15 := Aq.mk (Kd.qbk (by (with_reducible repeat (first | apply rA | apply rN | apply rD)); exact HO_15.out) hb); have BK208 := Aq.mk (hbox); have GW208 := Aq.mk ((by rw [hg]; exact (bQZ (by repeat (with_reducible first | exact HB.out | apply bQA | apply bQN | apply bQ1 | refine bQS ?_ GE201.out | refine bQS ?_ GE202.out))) : w.heap.size ≤ gb208)); have GE208 := Aq.mk ((by rw [hg]; exact (bQZ (by repeat (with_reducible first | exact HB.out | apply bQA | apply bQN | apply bQ1 | refine bQS ?_ GE201.out | refine bQS ?_ GE202.out))) : w.heap.size ≤ gb208)); replace HB := Aq.mk (bQT (by repeat (with_reducible first | exact HB.out | apply bQA | apply bQN | apply bQ1 | refine bQS ?_ GE201.out | refine bQS ?_ GE202.out)) hb); have NB201_208 := Aq.mk ((by rw [hg]; exact Nat.ne_of_lt (qbo (g := gb201) (o := .cells #[.int .i64 a0_0, .slice A0_1 l0_1.length c0_1] 26 (0, 0)) (by (with_reducible repeat (first | refine kQN ?_ _ | refine kQD ?_ | refine kQA ?_ _)); exact BK201.out)) : gb201 ≠ gb208)); have NB208_201 := Aq.mk ((by rw [hg]; exact Nat.ne_of_gt (qbo (g := gb201) (o := .cells #[.int .i64 a0_0, .slice A0_1 l0_1.length c0_1] 26 (0, 0)) (by (with_reducible repeat (first | refine kQN ?_ _ | refine kQD ?_ | refine kQA ?_ _)); exact BK201.out)) : gb208 ≠ gb201)); replace BK201 := Aq.mk (kQB (g := gb201) (o := .cells #[.int .i64 a0_0, .slice A0_1 l0_1.length c0_1] 26 (0, 0)) (by (with_reducible repeat (first | refine kQN ?_ _ | refine kQD ?_ | refine kQA ?_ _)); exact BK201.out) hb); have NB202_208 := Aq.mk ((by rw [hg]; exact Nat.ne_of_lt (qbo (g := gb202) (o := .cells #[.int .i64 0, .slice none 0 0] 26 (0, 0)) (by (with_reducible repeat (first | refine kQN ?_ _ | refine kQD ?_ | refine kQA ?_ _)); exact BK202.out)) : gb202 ≠ gb208)); have NB208_202 := Aq.mk ((by rw [hg]; exact Nat.ne_of_gt (qbo (g := gb202) (o := .cells #[.int .i64 0, .slice none 0 0] 26 (0, 0)) (by (with_reducible repeat (first | refine kQN ?_ _ | refine kQD ?_ | refine kQA ?_ _)); exact BK202.out)) : gb208 ≠ gb202)); replace BK202 := Aq.mk (kQB (g := gb202) (o := .cells #[.int .i64 0, .slice none 0 0] 26 (0, 0)) (by (with_reducible repeat (first | refine kQN ?_ _ | refine kQD ?_ | refine kQA ?_ _)); exact BK202.out) hb); clear hb hbox hg; have hnb18 := NB208_201.out; have hnc18 := NB201_208.out; have hnb19 := NB208_202.out; have hnc19 := NB202_208.out; have hcz20_0 : w17.cell? ⟨gb208, 0, none⟩ = some (.int .i64 0) := (kQC BK208.out 0).trans rfl; have hcz20_1 : w17.cell? ⟨gb208, 1, none⟩ = some (.slice none 0 0) := (kQC BK208.out 1).trans rfl; have hfz20_0 := kQF BK208.out 0; have hfz20_1 := kQF BK208.out 1; have hcz21_0 : w17.cell? ⟨gb201, 0, none⟩ = some (.int .i64 a0_0) := (kQC BK201.out 0).trans rfl; have hcz21_1 : w17.cell? ⟨gb201, 1, none⟩ = some (.slice A0_1 l0_1.length c0_1) := (kQC BK201.out 1).trans rfl; have hfz21_0 := kQF BK201.out 0; have hfz21_1 := kQF BK201.out 1))
    go_loopg [32] k1 (fun kq v32 w' => ∃ (x32_2 : Int) (x209001_2 : List Int) (u209001 : Value), v32 = .int .i64 x32_2 ∧ Aq (qae.l1 kq t203 x4_1 a0_0 x32_2 a0_0 x209001_2 = some (r1, r2)) ∧ Aq (kq ≤ k1) ∧ Aq (Kd.R (Kd.int .i64) 2 w' w.heap.size (fun k_ => some k_ ≠ (u209001 : Value).ownBlock) (.slice Ao8 t203.length co8) t203) ∧ Aq (Kd.R (Kd.int .i64) 2 w' w.heap.size (fun k_ => some k_ ≠ ((.slice Ao8 t203.length co8) : Value).ownBlock) u209001 x209001_2) ∧ Aq (w'.heap[gb201]? = some (.cells #[.int .i64 a0_0, (.slice A0_1 l0_1.length c0_1)] 26 (0, 0))) ∧ Aq (w'.heap[gb202]? = some (.cells #[.int .i64 0, (.slice none 0 0)] 26 (0, 0))) ∧ Aq (w'.heap[gb208]? = some (.cells #[.int .i64 a0_0, u209001] 26 (0, 0))) ∧ Aq (Below w.heap.size w w'))
    case atStart => exact ⟨(0), (([] : List Int)), (.slice none 0 0), (by first | rfl | (simp; done) | (simp [*]; done)), H', ⟨Nat.le_refl _⟩, ⟨by (with_reducible repeat (first | apply rA | apply rN | apply rD)); exact Kd.qbj (Kd.qbs (p := ⟨gb208, 1, none⟩) (Kd.qbs (p := ⟨gb208, 0, none⟩) (Kd.qbq HO_3.out BK208.out (by decide)) (fun _ hk => hk.2) (.int .i64 a0_0)) (fun _ hk => hk.2) (.slice none 0 0)) (fun _ hk => (by simp [Value.ownBlock]))⟩, ⟨by first | exact Kd.R_nil _ _ _ _ _ | exact Kd.N_nil _ _ _ _ _ | exact Kd.V_nil _ _ _ _ _ | exact Kd.Q_nil _ _ _ _ _ | exact Kd.S_nil _ _ _ _ _⟩, ⟨by (with_reducible repeat (first | refine kQN ?_ _ | refine kQD ?_ | refine kQA ?_ _)); refine kQR ?_ NB201_208.out _; (with_reducible repeat (first | refine kQN ?_ _ | refine kQD ?_ | refine kQA ?_ _)); refine kQR ?_ NB201_208.out _; (with_reducible repeat (first | refine kQN ?_ _ | refine kQD ?_ | refine kQA ?_ _)); exact BK201.out⟩, ⟨by (with_reducible repeat (first | refine kQN ?_ _ | refine kQD ?_ | refine kQA ?_ _)); refine kQR ?_ NB202_208.out _; (with_reducible repeat (first | refine kQN ?_ _ | refine kQD ?_ | refine kQA ?_ _)); refine kQR ?_ NB202_208.out _; (with_reducible repeat (first | refine kQN ?_ _ | refine kQD ?_ | refine kQA ?_ _)); exact BK202.out⟩, ⟨by (with_reducible repeat (first | refine kQN ?_ _ | refine kQD ?_ | refine kQA ?_ _)); refine kQP (cs := #[.int .i64 a0_0, .slice none 0 0]) ?_ 1 _ rfl; (with_reducible repeat (first | refine kQN ?_ _ | refine kQD ?_ | refine kQA ?_ _)); refine kQP (cs := #[.int .i64 0, .slice none 0 0]) ?_ 0 _ rfl; (with_reducible repeat (first | refine kQN ?_ _ | refine kQD ?_ | refine kQA ?_ _)); exact BK208.out⟩, ⟨by repeat (first | (with_reducible first | exact HB.out | apply bQA | apply bQN | apply bQ1 | refine bQS ?_ GE201.out | refine bQS ?_ GE202.out | refine bQS ?_ GE208.out) | exact HB.out)⟩⟩
    case round =>
     clear H'
     try clear c1
     try clear p2
     try clear q2
     try clear hx2
     try clear c5
     try clear c6
     try clear p6
     try clear c9
     try clear c9b0
     try clear c10
     try clear c10b0
     try clear c11
     try clear c11b0
     try clear c13
     try clear c13b0
     try clear c13b1
     try clear c15
     try clear c18
     try clear c19
     try clear p20
     try clear q20
     try clear hx20
     try clear hcz16_0
     try clear hcz16_1
     try clear hcz20_0
     try clear hcz20_1
     try clear hcz21_0
     try clear hcz21_1
     try clear hcz6_0
     try clear hcz6_1
     try clear hfz16_0
     try clear hfz16_1
     try clear hfz20_0
     try clear hfz20_1
     try clear hfz21_0
     try clear hfz21_1
     try clear hfz6_0
     try clear hfz6_1
     try clear hx206_0
     try clear p2
     try clear p206
     try clear q206
     obtain ⟨x32_2, x209001_2, u209001, rfl, HA, HK2, HO_3, HO_209001, BK201, BK202, BK208, HB⟩ := hrel
     cases gk with
     | zero => exact absurd HA.out (by simp [qae.l1])
     | succ k2 =>
      have H := HA.out
      clear HA
      simp only [qae.l1] at H
      by_cases c22 : x32_2 < a0_0
      ·rw [if_pos c22] at H
       have c22b0 : decide (x32_2 < a0_0) = true := decide_eq_true c22
       clear c22
       by_cases c23 : 0 ≤ x32_2
       ·rw [if_pos c23] at H
        have c23b0 := eq_true c23
        have c23b1 : decide (0 ≤ x32_2) = true := decide_eq_true c23
        clear c23
        obtain ⟨ji24, hji24⟩ : ∃ j_ : Int, (shr .i64 x4_1 x32_2) = j_ := ⟨_, rfl⟩
        replace H : (if (Go.bits .and .i64 (ji24) 1) = 1 then (qae.l1 k2 t203 x4_1 a0_0 (wrap64 (x32_2 + 1)) a0_0 x209001_2) else (qae.l2 k2 t203 x4_1 x32_2 (shl .i64 1 x32_2) a0_0 x32_2 t203 (t203.length : Int) 0 a0_0 x209001_2)) = some (r1, r2) := by first | (rw [hji24] at H; exact H) | (simp only [hji24] at H ⊢; exact H)
        have hji24_ : (x4_1 / 2 ^ min x32_2.toNat 64) = ji24 := hji24
        have hji24z : x32_2 ≤ 64 → (x4_1 / 2 ^ x32_2.toNat) = ji24 := shr_small hji24
        by_cases c25 : (Go.bits .and .i64 (ji24) 1) = 1
        ·rw [if_pos c25] at H
         have c25b0 : ((Go.bits .and .i64 (ji24) 1) == 1) = true := beq_iff_eq.mpr c25
         have c25b1 : ((Go.bits .and .i64 (ji24) 1) != 1) = false := bne_eq_false_iff_eq.mpr c25
         clear c25
         have H' := Aq.mk H
         clear H
         go_wp2
         go_roundg k2
         case measure => have := HK1.out; have := HK2.out; omega
         case rel => exact ⟨(wrap64 (x32_2 + 1)), (x209001_2), (u209001), (by first | rfl | (simp; done) | (simp [*]; done)), H', ⟨by have := HK1.out; have := HK2.out; omega⟩, ⟨by (with_reducible repeat (first | apply rA | apply rN | apply rD)); exact HO_3.out⟩, ⟨by (with_reducible repeat (first | apply rA | apply rN | apply rD)); exact HO_209001.out⟩, ⟨by (with_reducible repeat (first | refine kQN ?_ _ | refine kQD ?_ | refine kQA ?_ _)); exact BK201.out⟩, ⟨by (with_reducible repeat (first | refine kQN ?_ _ | refine kQD ?_ | refine kQA ?_ _)); exact BK202.out⟩, ⟨by (with_reducible repeat (first | refine kQN ?_ _ | refine kQD ?_ | refine kQA ?_ _)); exact BK208.out⟩, ⟨by repeat (first | (with_reducible first | exact HB.out | apply bQA | apply bQN | apply bQ1 | refine bQS ?_ GE201.out | refine bQS ?_ GE202.out | refine bQS ?_ GE208.out) | exact HB.out)⟩⟩
        ·rw [if_neg c25] at H
         have c25b0 : ((Go.bits .and .i64 (ji24) 1) == 1) = false := beq_eq_false_iff_ne.mpr c25
         have c25b1 : ((Go.bits .and .i64 (ji24) 1) != 1) = true := bne_iff_ne.mpr c25
         have c26b0 := eq_true (of_decide_eq_true (by first | (with_reducible assumption) | assumption) : 0 ≤ x32_2)
         obtain ⟨ji27, hji27⟩ : ∃ j_ : Int, (shl .i64 1 x32_2) = j_ := ⟨_, rfl⟩
         replace H : (qae.l2 k2 t203 x4_1 x32_2 ji27 a0_0 x32_2 t203 (t203.length : Int) 0 a0_0 x209001_2) = some (r1, r2) := by first | (rw [hji27] at H; exact H) | (simp only [hji27] at H ⊢; exact H)
         have hji27_ : (IntKind.i64.wrap (1 * 2 ^ min x32_2.toNat 64)) = ji27 := hji27
         have hji27z : x32_2 ≤ 64 → (IntKind.i64.wrap (1 * 2 ^ x32_2.toNat)) = ji27 := shl_small hji27
         have hji27u : (IntKind.i64.wrap (2 ^ min x32_2.toNat 64)) = ji27 := by have h_ := hji27_; rw [Int.one_mul] at h_; exact h_
         have hji27v : x32_2 ≤ 64 → (IntKind.i64.wrap (2 ^ x32_2.toNat)) = ji27 := fun hle_ => by have h_ := hji27z hle_; rw [Int.one_mul] at h_; exact h_
         have hji27y : (wrap64 (1 * 2 ^ min x32_2.toNat 64)) = ji27 := (qbl _).symm.trans hji27_
         have hji27x : x32_2 ≤ 64 → (wrap64 (1 * 2 ^ x32_2.toNat)) = ji27 := fun h_ => (qbl _).symm.trans (hji27z h_)
         have H' := Aq.mk H
         clear H
         go_wp2
         go_loopg [9, 44] k2 (fun kq v9 v44 w' => ∃ (x9_3 : Int) (x44_3 : Int), v9 = .int .i64 x9_3 ∧ v44 = .int .i64 x44_3 ∧ Aq (qae.l2 kq t203 x4_1 x32_2 x9_3 a0_0 x32_2 t203 (t203.length : Int) x44_3 a0_0 x209001_2 = some (r1, r2)) ∧ Aq (kq ≤ k2) ∧ Aq (Kd.R (Kd.int .i64) 2 w' w.heap.size (fun k_ => some k_ ≠ (u209001 : Value).ownBlock) (.slice Ao8 t203.length co8) t203) ∧ Aq (Kd.R (Kd.int .i64) 2 w' w.heap.size (fun k_ => some k_ ≠ (u209001 : Value).ownBlock) (.slice Ao8 t203.length co8) t203) ∧ Aq (Kd.R (Kd.int .i64) 2 w' w.heap.size (fun k_ => some k_ ≠ ((.slice Ao8 t203.length co8) : Value).ownBlock ∧ some k_ ≠ ((.slice Ao8 t203.length co8) : Value).ownBlock) u209001 x209001_2) ∧ Aq (w'.heap[gb201]? = some (.cells #[.int .i64 a0_0, (.slice A0_1 l0_1.length c0_1)] 26 (0, 0))) ∧ Aq (w'.heap[gb202]? = some (.cells #[.int .i64 0, (.slice none 0 0)] 26 (0, 0))) ∧ Aq (w'.heap[gb208]? = some (.cells #[.int .i64 a0_0, u209001] 26 (0, 0))) ∧ Aq (Below w.heap.size w w'))
         case atStart => exact ⟨(ji27), (0), (by first | rfl | (simp; done) | (simp only [← hji27] <;> (first | rfl | simp)) | (simp [*]; done)), (by first | rfl | (simp; done) | (simp [*]; done)), H', ⟨Nat.le_refl _⟩, ⟨by (with_reducible repeat (first | apply rA | apply rN | apply rD)); exact HO_3.out⟩, ⟨by (with_reducible repeat (first | apply rA | apply rN | apply rD)); exact HO_3.out⟩, ⟨by (with_reducible repeat (first | apply rA | apply rN | apply rD)); exact Kd.qbj HO_209001.out (fun _ hk => ⟨hk, hk⟩)⟩, ⟨by (with_reducible repeat (first | refine kQN ?_ _ | refine kQD ?_ | refine kQA ?_ _)); exact BK201.out⟩, ⟨by (with_reducible repeat (first | refine kQN ?_ _ | refine kQD ?_ | refine kQA ?_ _)); exact BK202.out⟩, ⟨by (with_reducible repeat (first | refine kQN ?_ _ | refine kQD ?_ | refine kQA ?_ _)); exact BK208.out⟩, ⟨by repeat (first | (with_reducible first | exact HB.out | apply bQA | apply bQN | apply bQ1 | refine bQS ?_ GE201.out | refine bQS ?_ GE202.out | refine bQS ?_ GE208.out) | exact HB.out)⟩⟩
         case round =>
          clear H'
          try clear c1
          try clear c2
          try clear p2
          try clear q2
          try clear hx2
          try clear c5
          try clear c6
          try clear p6
          try clear c9
          try clear c9b0
          try clear c10
          try clear c10b0
          try clear c11
          try clear c11b0
          try clear c13
          try clear c13b0
          try clear c13b1
          try clear c15
          try clear c18
          try clear c19
          try clear p20
          try clear q20
          try clear hx20
          try clear c22
          try clear c22b0
          try clear c23
          try clear c23b0
          try clear c23b1
          try clear c25
          try clear c25b0
          try clear c25b1
          try clear c26
          try clear c26b0
          try clear hcz16_0
          try clear hcz16_1
          try clear hcz20_0
          try clear hcz20_1
          try clear hcz21_0
          try clear hcz21_1
          try clear hcz6_0
          try clear hcz6_1
          try clear hfz16_0
          try clear hfz16_1
          try clear hfz20_0
          try clear hfz20_1
          try clear hfz21_0
          try clear hfz21_1
          try clear hfz6_0
          try clear hfz6_1
          try clear hx206_0
          try clear p2
          try clear p20
          try clear p206
          try clear p6
          try clear q2
          try clear q20
          try clear q206
          obtain ⟨x9_3, x44_3, rfl, rfl, HA, HK3, HO_3, HO_42, HO_209001, BK201, BK202, BK208, HB⟩ := hrel
          cases gk with
          | zero => exact absurd HA.out (by simp [qae.l2])
          | succ k3 =>
           have H := HA.out
           clear HA
           simp only [qae.l2] at H
           by_cases c28 : x44_3 < (t203.length : Int)
           ·rw [if_pos c28] at H
            have c28b0 : decide (x44_3 < (t203.length : Int)) = true := decide_eq_true c28
            clear c28
            by_cases c29 : 0 ≤ x44_3
            ·rw [if_pos c29] at H
             have c29b0 : decide (0 ≤ x44_3) = true := decide_eq_true c29
             clear c29
             by_cases c30 : x44_3 < (t203.length : Int)
             ·rw [if_pos c30] at H
              have c30b0 : decide (x44_3 < (t203.length : Int)) = true := decide_eq_true c30
              clear c30
              by_cases c31 : 0 ≤ x32_2
              ·rw [if_pos c31] at H
               have c31b0 := eq_true c31
               have c31b1 : decide (0 ≤ x32_2) = true := decide_eq_true c31
               clear c31
               obtain ⟨ji32, hji32⟩ : ∃ j_ : Int, (shr .i64 (rd t203 x44_3) x32_2) = j_ := ⟨_, rfl⟩
               replace H : (if (Go.bits .and .i64 (ji32) 1) = 1 then ((qaw.f k3 (rd t203 x44_3)).bind fun t214 => (if 0 ≤ t214 then (qae.l2 k3 t203 x4_1 x32_2 (Go.bits .or .i64 x9_3 (shl .i64 1 t214)) a0_0 x32_2 t203 (t203.length : Int) (wrap64 (x44_3 + 1)) a0_0 x209001_2) else (none))) else (qae.l2 k3 t203 x4_1 x32_2 x9_3 a0_0 x32_2 t203 (t203.length : Int) (wrap64 (x44_3 + 1)) a0_0 x209001_2)) = some (r1, r2) := by first | (rw [hji32] at H; exact H) | (simp only [hji32] at H ⊢; exact H)
               have hji32_ : ((rd t203 x44_3) / 2 ^ min x32_2.toNat 64) = ji32 := hji32
               have hji32z : x32_2 ≤ 64 → ((rd t203 x44_3) / 2 ^ x32_2.toNat) = ji32 := shr_small hji32
               by_cases c33 : (Go.bits .and .i64 (ji32) 1) = 1
               ·rw [if_pos c33] at H
                have c33b0 : ((Go.bits .and .i64 (ji32) 1) == 1) = true := beq_iff_eq.mpr c33
                have c33b1 : ((Go.bits .and .i64 (ji32) 1) != 1) = false := bne_eq_false_iff_eq.mpr c33
                clear c33
                replace H := Option.bind_eq_some_iff.mp H
                obtain ⟨t214, A340, H⟩ := H
                replace H : (if 0 ≤ t214 then (qae.l2 k3 t203 x4_1 x32_2 (Go.bits .or .i64 x9_3 (shl .i64 1 t214)) a0_0 x32_2 t203 (t203.length : Int) (wrap64 (x44_3 + 1)) a0_0 x209001_2) else (none)) = some (r1, r2) := H
                have A34 := Aq.mk A340
                clear A340
                by_cases c35 : 0 ≤ t214
                ·rw [if_pos c35] at H
                 have c35b0 := eq_true c35
                 have c35b1 : decide (0 ≤ t214) = true := decide_eq_true c35
                 clear c35
                 obtain ⟨ji36, hji36⟩ : ∃ j_ : Int, (shl .i64 1 t214) = j_ := ⟨_, rfl⟩
                 replace H : (qae.l2 k3 t203 x4_1 x32_2 (Go.bits .or .i64 x9_3 (ji36)) a0_0 x32_2 t203 (t203.length : Int) (wrap64 (x44_3 + 1)) a0_0 x209001_2) = some (r1, r2) := by first | (rw [hji36] at H; exact H) | (simp only [hji36] at H ⊢; exact H)
                 (try rw [hji36] at A34)
                 have hji36_ : (IntKind.i64.wrap (1 * 2 ^ min t214.toNat 64)) = ji36 := hji36
                 have hji36z : t214 ≤ 64 → (IntKind.i64.wrap (1 * 2 ^ t214.toNat)) = ji36 := shl_small hji36
                 have hji36u : (IntKind.i64.wrap (2 ^ min t214.toNat 64)) = ji36 := by have h_ := hji36_; rw [Int.one_mul] at h_; exact h_
                 have hji36v : t214 ≤ 64 → (IntKind.i64.wrap (2 ^ t214.toNat)) = ji36 := fun hle_ => by have h_ := hji36z hle_; rw [Int.one_mul] at h_; exact h_
                 have hji36y : (wrap64 (1 * 2 ^ min t214.toNat 64)) = ji36 := (qbl _).symm.trans hji36_
                 have hji36x : t214 ≤ 64 → (wrap64 (1 * 2 ^ t214.toNat)) = ji36 := fun h_ => (qbl _).symm.trans (hji36z h_)
                 have H' := Aq.mk H
                 clear H
                 have p213 : 0 ≤ (x44_3 : Int) := of_decide_eq_true (by first | (with_reducible assumption) | assumption)
                 have q213 : x44_3 < (t203.length : Int) := of_decide_eq_true (by first | (with_reducible assumption) | assumption)
                 obtain ⟨ad213, e213, hx213_0⟩ := Kd.at_int (Kd.qbi HO_42.out).2.2 x44_3 p213 q213
                 cases e213
                 replace p213 := eq_true p213
                 replace q213 := eq_true q213
                 go_wp2_with (first | ((with_reducible refine gQc (f := 99) rfl ?_); refine qbz (some 55) rfl rfl Try.func99 (by kernel_rfl) rfl #[.int .i64 (rd t203 x44_3)] rfl (by (try simp only [List.map_toArray, List.map_cons, List.map_nil]); first | done | rfl | (simp only [List.length_drop, List.length_take]; rfl)) ?_; (with_reducible refine (qaw.calls k3 (rd t203 x44_3) t214 _ A34.out).mono ?_); rintro e w' ⟨rfl, ⟨nd, rfl⟩⟩; refine ⟨_, rfl, ?_⟩))
                 go_roundg k3
                 case measure => have := HK1.out; have := HK2.out; have := HK3.out; omega
                 case rel => exact ⟨(Go.bits .or .i64 x9_3 (ji36)), (wrap64 (x44_3 + 1)), (by first | rfl | (simp; done) | (simp only [← hji36] <;> (first | rfl | simp)) | (simp [*]; done)), (by first | rfl | (simp; done) | (simp [*]; done)), H', ⟨by have := HK1.out; have := HK2.out; have := HK3.out; omega⟩, ⟨by (with_reducible repeat (first | apply rA | apply rN | apply rD)); exact HO_3.out⟩, ⟨by (with_reducible repeat (first | apply rA | apply rN | apply rD)); exact HO_42.out⟩, ⟨by (with_reducible repeat (first | apply rA | apply rN | apply rD)); exact HO_209001.out⟩, ⟨by (with_reducible repeat (first | refine kQN ?_ _ | refine kQD ?_ | refine kQA ?_ _)); exact BK201.out⟩, ⟨by (with_reducible repeat (first | refine kQN ?_ _ | refine kQD ?_ | refine kQA ?_ _)); exact BK202.out⟩, ⟨by (with_reducible repeat (first | refine kQN ?_ _ | refine kQD ?_ | refine kQA ?_ _)); exact BK208.out⟩, ⟨by repeat (first | (with_reducible first | exact HB.out | apply bQA | apply bQN | apply bQ1 | refine bQS ?_ GE201.out | refine bQS ?_ GE202.out | refine bQS ?_ GE208.out) | exact HB.out)⟩⟩
                ·rw [if_neg c35] at H
                 exact absurd H (by simp)
               ·rw [if_neg c33] at H
                have c33b0 : ((Go.bits .and .i64 (ji32) 1) == 1) = false := beq_eq_false_iff_ne.mpr c33
                have c33b1 : ((Go.bits .and .i64 (ji32) 1) != 1) = true := bne_iff_ne.mpr c33
                have H' := Aq.mk H
                clear H
                have p213 : 0 ≤ (x44_3 : Int) := of_decide_eq_true (by first | (with_reducible assumption) | assumption)
                have q213 : x44_3 < (t203.length : Int) := of_decide_eq_true (by first | (with_reducible assumption) | assumption)
                obtain ⟨ad213, e213, hx213_0⟩ := Kd.at_int (Kd.qbi HO_42.out).2.2 x44_3 p213 q213
                cases e213
                replace p213 := eq_true p213
                replace q213 := eq_true q213
                go_wp2
                go_roundg k3
                case measure => have := HK1.out; have := HK2.out; have := HK3.out; omega
                case rel => exact ⟨(x9_3), (wrap64 (x44_3 + 1)), (by first | rfl | (simp; done) | (simp [*]; done)), (by first | rfl | (simp; done) | (simp [*]; done)), H', ⟨by have := HK1.out; have := HK2.out; have := HK3.out; omega⟩, ⟨by (with_reducible repeat (first | apply rA | apply rN | apply rD)); exact HO_3.out⟩, ⟨by (with_reducible repeat (first | apply rA | apply rN | apply rD)); exact HO_42.out⟩, ⟨by (with_reducible repeat (first | apply rA | apply rN | apply rD)); exact HO_209001.out⟩, ⟨by (with_reducible repeat (first | refine kQN ?_ _ | refine kQD ?_ | refine kQA ?_ _)); exact BK201.out⟩, ⟨by (with_reducible repeat (first | refine kQN ?_ _ | refine kQD ?_ | refine kQA ?_ _)); exact BK202.out⟩, ⟨by (with_reducible repeat (first | refine kQN ?_ _ | refine kQD ?_ | refine kQA ?_ _)); exact BK208.out⟩, ⟨by repeat (first | (with_reducible first | exact HB.out | apply bQA | apply bQN | apply bQ1 | refine bQS ?_ GE201.out | refine bQS ?_ GE202.out | refine bQS ?_ GE208.out) | exact HB.out)⟩⟩
              ·rw [if_neg c31] at H
               exact absurd H (by simp)
             ·rw [if_neg c30] at H
              exact absurd H (by simp)
            ·rw [if_neg c29] at H
             exact absurd H (by simp)
           ·rw [if_neg c28] at H
            have c28b0 : decide (x44_3 < (t203.length : Int)) = false := decide_eq_false c28
            clear c28
            by_cases c37 : x209001_2.length < 17592186044416
            ·rw [if_pos c37] at H
             have LMc37 := Aq.mk c37
             clear c37
             obtain ⟨y215, hy215⟩ : ∃ y_ : List Int, y_ = (x209001_2 ++ [x9_3]) := ⟨_, rfl⟩
             replace H : (qae.l1 k3 t203 x4_1 a0_0 (wrap64 (x32_2 + 1)) a0_0 y215) = some (r1, r2) := by first | (rw [hy215]; with_reducible exact H) | (have H2_ := (Option.bind_some _ _).symm.trans H; rw [hy215]; with_reducible exact H2_) | (have H2_ := (Option.bind_some _ _).symm.trans H; with_reducible exact H2_) | with_reducible exact H | (rw [hy215]; exact H) | exact H
             have Ny215 := Aq.mk hy215
             clear hy215
             have H' := Aq.mk H
             clear H
             have hnb38 := NB208_201.out
             have hnc38 := NB201_208.out
             have hnb39 := NB208_202.out
             have hnc39 := NB202_208.out
             have hcz40_0 : wr.cell? ⟨gb208, 0, none⟩ = some (.int .i64 a0_0) := (kQC BK208.out 0).trans rfl
             have hcz40_1 : wr.cell? ⟨gb208, 1, none⟩ = some (u209001) := (kQC BK208.out 1).trans rfl
             have hfz40_0 := kQF BK208.out 0
             have hfz40_1 := kQF BK208.out 1
             go_wp2_with (first | ((with_reducible refine gate_builtin (b := .append) (xs := #[.tmp 60, .tmp 62]) rfl ?_); at_builtin; refine Kd.R_append (Kd.int .i64) (w0 := w) w.heap.size rfl (.tmp 60) (.tmp 62) 22 2 (.int .i64 0) 8 rfl Try.underlying22 info2 rfl (by decide) (by omega) u209001 x209001_2 x9_3 [.int .i64 x9_3] (fun k_ => some k_ ≠ (.slice Ao8 t203.length co8 : Value).ownBlock ∧ some k_ ≠ (.slice Ao8 t203.length co8 : Value).ownBlock) (fun _ => False) rfl rfl ?aP (fun _ hk => hk.elim) ?aF ?aO ?aB ?aS ?aL ?_; (case aP => exact rfl); (case aB => exact (by repeat (with_reducible first | exact HB.out | apply bQA | apply bQN | apply bQ1 | refine bQS ?_ GE201.out | refine bQS ?_ GE202.out | refine bQS ?_ GE208.out))); (case aF => exact (fun k_ hk => ⟨Kd.fresh' (Kd.R_lt (by (with_reducible repeat (first | apply rA | apply rN | apply rD)); exact HO_3.out)) k_ hk, Kd.fresh' (Kd.R_lt (by (with_reducible repeat (first | apply rA | apply rN | apply rD)); exact HO_42.out)) k_ hk⟩)); (case aO => exact (by (with_reducible repeat (first | apply rA | apply rN | apply rD)); exact HO_209001.out)); (case aS => exact (bQZ (by repeat (with_reducible first | exact HB.out | apply bQA | apply bQN | apply bQ1 | refine bQS ?_ GE201.out | refine bQS ?_ GE202.out | refine bQS ?_ GE208.out)))); (case aL => have := LMc37.out; omega); intro v216 w41 ho hb hg hat; rw [← Ny215.out] at ho; replace HO_3 := Aq.mk (Kd.R_after (ok := (fun _ => True)) (by (with_reducible repeat (first | apply rA | apply rN | apply rD)); exact Kd.qbj HO_3.out (fun _ hk => ⟨trivial, hk⟩)) hg hat); replace HO_42 := Aq.mk (Kd.R_after (ok := (fun _ => True)) (by (with_reducible repeat (first | apply rA | apply rN | apply rD)); exact Kd.qbj HO_42.out (fun _ hk => ⟨trivial, hk⟩)) hg hat); replace BK201 := Aq.mk (blk_grown (g := gb201) (o := .cells #[.int .i64 a0_0, .slice A0_1 l0_1.length c0_1] 26 (0, 0)) (by (with_reducible repeat (first | refine kQN ?_ _ | refine kQD ?_ | refine kQA ?_ _)); exact BK201.out) hg (Kd.R_ne HO_209001.out BK201.out (by decide))); replace BK202 := Aq.mk (blk_grown (g := gb202) (o := .cells #[.int .i64 0, .slice none 0 0] 26 (0, 0)) (by (with_reducible repeat (first | refine kQN ?_ _ | refine kQD ?_ | refine kQA ?_ _)); exact BK202.out) hg (Kd.R_ne HO_209001.out BK202.out (by decide))); replace BK208 := Aq.mk (blk_grown (g := gb208) (o := .cells #[.int .i64 a0_0, u209001] 26 (0, 0)) (by (with_reducible repeat (first | refine kQN ?_ _ | refine kQD ?_ | refine kQA ?_ _)); exact BK208.out) hg (Kd.R_ne HO_209001.out BK208.out (by decide))); replace HB := Aq.mk (hb); have HO217 := Aq.mk (ho); clear HO_209001; clear ho hb hg hat; obtain ⟨Ao42, co42, eo42⟩ := Kd.qbw HO217.out; subst eo42; have hcz43_0 : w41.cell? ⟨gb208, 0, none⟩ = some (.int .i64 a0_0) := (kQC BK208.out 0).trans rfl; have hcz43_1 : w41.cell? ⟨gb208, 1, none⟩ = some (u209001) := (kQC BK208.out 1).trans rfl; have hfz43_0 := kQF BK208.out 0; have hfz43_1 := kQF BK208.out 1))
             go_roundg k3
             case measure => have := HK1.out; have := HK2.out; have := HK3.out; omega
             case rel => exact ⟨(wrap64 (x32_2 + 1)), (y215), (.slice Ao42 y215.length co42), (by first | rfl | (simp; done) | (simp [*]; done)), H', ⟨by have := HK1.out; have := HK2.out; have := HK3.out; omega⟩, ⟨by (with_reducible repeat (first | apply rA | apply rN | apply rD)); exact Kd.qbj (Kd.qbs (p := ⟨gb208, 1, none⟩) (Kd.qbq HO_3.out BK208.out (by decide)) (fun _ hk => hk.2) (.slice Ao42 y215.length co42)) (fun _ hk => hk.1.2)⟩, ⟨by (with_reducible repeat (first | apply rA | apply rN | apply rD)); exact Kd.qbj (Kd.qbs (p := ⟨gb208, 1, none⟩) (Kd.qbq HO217.out BK208.out (by decide)) (fun _ hk => hk.2) (.slice Ao42 y215.length co42)) (fun _ hk => hk.1.1)⟩, ⟨by (with_reducible repeat (first | refine kQN ?_ _ | refine kQD ?_ | refine kQA ?_ _)); refine kQR ?_ NB201_208.out _; (with_reducible repeat (first | refine kQN ?_ _ | refine kQD ?_ | refine kQA ?_ _)); exact BK201.out⟩, ⟨by (with_reducible repeat (first | refine kQN ?_ _ | refine kQD ?_ | refine kQA ?_ _)); refine kQR ?_ NB202_208.out _; (with_reducible repeat (first | refine kQN ?_ _ | refine kQD ?_ | refine kQA ?_ _)); exact BK202.out⟩, ⟨by (with_reducible repeat (first | refine kQN ?_ _ | refine kQD ?_ | refine kQA ?_ _)); refine kQP (cs := #[.int .i64 a0_0, u209001]) ?_ 1 _ rfl; (with_reducible repeat (first | refine kQN ?_ _ | refine kQD ?_ | refine kQA ?_ _)); exact BK208.out⟩, ⟨by repeat (first | (with_reducible first | exact HB.out | apply bQA | apply bQN | apply bQ1 | refine bQS ?_ GE201.out | refine bQS ?_ GE202.out | refine bQS ?_ GE208.out) | exact HB.out)⟩⟩
            ·rw [if_neg c37] at H
             exact absurd H (by simp)
       ·rw [if_neg c23] at H
        exact absurd H (by simp)
      ·rw [if_neg c22] at H
       have c22b0 : decide (x32_2 < a0_0) = false := decide_eq_false c22
       clear c22
       replace H := Option.bind_eq_some_iff.mp H
       obtain ⟨⟨t209, t210⟩, A440, H⟩ := H
       replace H : (some (t209, t210)) = some (r1, r2) := H
       have A44 := Aq.mk A440
       clear A440
       simp only [Option.some.injEq, Prod.mk.injEq] at H
       obtain ⟨rfl, rfl⟩ := H
       have hnb45 := NB208_201.out
       have hnc45 := NB201_208.out
       have hnb46 := NB208_202.out
       have hnc46 := NB202_208.out
       have hcz47_0 : wr.cell? ⟨gb208, 0, none⟩ = some (.int .i64 a0_0) := (kQC BK208.out 0).trans rfl
       have hcz47_1 : wr.cell? ⟨gb208, 1, none⟩ = some (u209001) := (kQC BK208.out 1).trans rfl
       have hfz47_0 := kQF BK208.out 0
       have hfz47_1 := kQF BK208.out 1
       obtain ⟨Ao48, co48, eo48⟩ := Kd.qbw HO_209001.out
       subst eo48
       go_wp2_with (first | ((with_reducible refine gQc (f := 91) rfl ?_); refine qbz (some 67) rfl rfl Try.func91 (by kernel_rfl) rfl #[.agg #[.int .i64 a0_0, .slice Ao48 x209001_2.length co48]] rfl (by (try simp only [List.map_toArray, List.map_cons, List.map_nil]); first | done | rfl | (simp only [List.length_drop, List.length_take]; rfl)) ?_; (with_reducible refine (qa2.calls k2 a0_0 _ _ x209001_2 t209 t210 _ ?side1 ?side2 A44.out).mono ?_); (case side1 => repeat (first | exact (Kd.qbi HO_209001.out).2.2 | (with_reducible refine Kd.CqA ?_ _) | (with_reducible refine Kd.CqN ?_ _) | (with_reducible refine Kd.CqD ?_))); (case side2 => exact (Kd.qbi HO_209001.out).2.1); rintro e w49 ⟨v211, rfl, ho0, hb⟩; refine ⟨_, rfl, ?_⟩; have HO212 := Aq.mk (Kd.qbx (Kd.qbu (Kd.qbu ho0 (Kd.R_lt (by (with_reducible repeat (first | apply rA | apply rN | apply rD)); exact HO_3.out))) (Kd.R_lt (by (with_reducible repeat (first | apply rA | apply rN | apply rD)); exact HO_209001.out))) (bQZ (by repeat (with_reducible first | exact HB.out | apply bQA | apply bQN | apply bQ1 | refine bQS ?_ GE201.out | refine bQS ?_ GE202.out | refine bQS ?_ GE208.out)))); replace HO_3 := Aq.mk (Kd.qbm (by (with_reducible repeat (first | apply rA | apply rN | apply rD)); exact HO_3.out) (Kd.qbr ho0) hb); replace HO_209001 := Aq.mk (Kd.qbm (by (with_reducible repeat (first | apply rA | apply rN | apply rD)); exact HO_209001.out) (Kd.qbr ho0) hb); replace BK201 := Aq.mk (kQB (g := gb201) (o := .cells #[.int .i64 a0_0, .slice A0_1 l0_1.length c0_1] 26 (0, 0)) (by (with_reducible repeat (first | refine kQN ?_ _ | refine kQD ?_ | refine kQA ?_ _)); exact BK201.out) hb); replace BK202 := Aq.mk (kQB (g := gb202) (o := .cells #[.int .i64 0, .slice none 0 0] 26 (0, 0)) (by (with_reducible repeat (first | refine kQN ?_ _ | refine kQD ?_ | refine kQA ?_ _)); exact BK202.out) hb); replace BK208 := Aq.mk (kQB (g := gb208) (o := .cells #[.int .i64 a0_0, .slice Ao48 x209001_2.length co48] 26 (0, 0)) (by (with_reducible repeat (first | refine kQN ?_ _ | refine kQD ?_ | refine kQA ?_ _)); exact BK208.out) hb); replace HB := Aq.mk (bQT (by repeat (with_reducible first | exact HB.out | apply bQA | apply bQN | apply bQ1 | refine bQS ?_ GE201.out | refine bQS ?_ GE202.out | refine bQS ?_ GE208.out)) hb); (try clear hb); (try clear hb2); (try clear hk); (try clear hi); (try clear ho0); have hnb50 := NB202_201.out; have hnc50 := NB201_202.out; have hcz51_0 : w49.cell? ⟨gb202, 0, none⟩ = some (.int .i64 0) := (kQC BK202.out 0).trans rfl; have hcz51_1 : w49.cell? ⟨gb202, 1, none⟩ = some (.slice none 0 0) := (kQC BK202.out 1).trans rfl; have hfz51_0 := kQF BK202.out 0; have hfz51_1 := kQF BK202.out 1; obtain ⟨Ao52, co52, eo52⟩ := Kd.qbw HO212.out; subst eo52))
       refine bodyPost_ret (results_cell_row rfl _ _ gb202 26 #[.int .i64 t209, .slice Ao52 t210.length co52] (0, 0) _ rfl (by (with_reducible repeat (first | refine kQN ?_ _ | refine kQD ?_ | refine kQA ?_ _)); refine kQP (cs := #[.int .i64 t209, .slice none 0 0]) ?_ 1 _ rfl; (with_reducible repeat (first | refine kQN ?_ _ | refine kQD ?_ | refine kQA ?_ _)); refine kQP (cs := #[.int .i64 0, .slice none 0 0]) ?_ 0 _ rfl; (with_reducible repeat (first | refine kQN ?_ _ | refine kQD ?_ | refine kQA ?_ _)); exact BK202.out) Try.underlying26 rfl (by kernel_rfl)) rfl ?_
       exact ⟨_, by first | rfl | (simp [errW_none, errW_some] <;> rfl) | (simp [*, errW_none, errW_some] <;> rfl), by (with_reducible repeat (first | apply rA | apply rN | apply rD)); exact Kd.qbj (Kd.qbs (p := ⟨gb202, 1, none⟩) (Kd.qbs (p := ⟨gb202, 0, none⟩) (Kd.qbq HO212.out BK202.out (by decide)) (fun _ hk => hk.2) (.int .i64 t209)) (fun _ hk => hk.2) (.slice Ao52 t210.length co52)) (fun _ hk => trivial), by repeat (first | (with_reducible first | exact HB.out | apply bQA | apply bQN | apply bQ1 | refine bQS ?_ GE201.out | refine bQS ?_ GE202.out | refine bQS ?_ GE208.out) | exact HB.out)⟩
end Go.Proofs.Ytbaicdgkpnbipaa.P
