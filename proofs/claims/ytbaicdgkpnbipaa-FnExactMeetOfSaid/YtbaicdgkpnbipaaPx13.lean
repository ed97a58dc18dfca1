/- Printed functions. -/
import Derived.Test.YtbaicdgkpnbipaaPx0
import Derived.Test.YtbaicdgkpnbipaaPx6
namespace Go.Proofs.Ytbaicdgkpnbipaa.P
open Go.Shelf Go.RowKit Go.Proofs.YtbaicdgkpnbipaaW.PrintWords Go.Proofs.YtbaicdgkpnbipaaW.PrintLast Go.Proofs.YtbaicdgkpnbipaaW.PrintMore
attribute [local go_sem] max2_int min2_int max_two min_two max_three min_three max_four min_four
set_option linter.unusedVariables false
set_option linter.unusedSimpArgs false
def qam.j0 : Nat → Bool → Int → List Int → Int → List Int → Option (Int)
  | 0, _, _, _, _, _ => none
  | k + 1, x5, x443000, x443001, x444000, x444001 => if x5 = true then (some 1) else (if x443000 = x444000 then (some 0) else (some 2))
def qam.f (k : Nat) (a0_0 : Int) (l0_1 : List Int) (a1_0 : Int) (l1_1 : List Int) : Option (Int) := (qa0.f k a0_0 l0_1).bind fun t444 => (if t444 = true then ((qa0.f k a1_0 l1_1).bind fun t445 => (qam.j0 k (!t445) a0_0 l0_1 a1_0 l1_1)) else (qam.j0 k true a0_0 l0_1 a1_0 l1_1))
theorem qam.mono_l : ∀ k, (∀ y0 y1 y2 y3 y4, LeO (qam.j0 k y0 y1 y2 y3 y4) (qam.j0 (k + 1) y0 y1 y2 y3 y4))
 | 0 => fun _ _ _ _ _ r h => by simp [qam.j0] at h
 | k + 1 => by
  have ih0 := qam.mono_l k
  ·intro y0 y1 y2 y3 y4
   unfold qam.j0
   repeat' first
   | (with_reducible first | exact ih0 _ _ _ _ _ | exact qa0.mono _ _ _ | exact LeO.refl _ | exact LeO.none _ | refine LeO.ite ?_ ?_ | refine LeO.bind ?_ (fun _ => ?_))
   | exact LeO.none _
   | refine LeO.ite ?_ ?_
   | refine LeO.bind ?_ (fun _ => ?_)
theorem qam.mono : ∀ a0 a1 a2 a3 k, LeO (qam.f k a0 a1 a2 a3) (qam.f (k + 1) a0 a1 a2 a3) := by
 intro a0 a1 a2 a3 k
 have ih0 := qam.mono_l k
 unfold qam.f
 repeat' first
  | (with_reducible first | exact ih0 _ _ _ _ _ | exact qa0.mono _ _ _ | exact LeO.refl _ | exact LeO.none _ | refine LeO.ite ?_ ?_ | refine LeO.bind ?_ (fun _ => ?_))
  | exact LeO.none _
  | refine LeO.ite ?_ ?_
  | refine LeO.bind ?_ (fun _ => ?_)
set_option maxHeartbeats 8000000 in
set_option maxRecDepth 100000 in
theorem qam.calls (k : Nat) (a0_0 : Int) (A0_1 : Option Addr) (c0_1 : Nat) (l0_1 : List Int) (a1_0 : Int) (A1_1 : Option Addr) (c1_1 : Nat) (l1_1 : List Int) (r : Int) (w : World) (hr0_1 : Kd.C (Kd.int .i64) w A0_1 l0_1.length l0_1) (hc0_1 : l0_1.length ≤ c0_1) (hr1_1 : Kd.C (Kd.int .i64) w A1_1 l1_1.length l1_1) (hc1_1 : l1_1.length ≤ c1_1) (h : qam.f k a0_0 l0_1 a1_0 l1_1 = some r) :
 Calls Try.prog 70 #[.agg #[.int .i64 a0_0, .slice A0_1 l0_1.length c0_1], .agg #[.int .i64 a1_0, .slice A1_1 l1_1.length c1_1]] w fun e w' => e = .returned (.int .i64 r) ∧ Below w.heap.size w w' := by
 have hu26 := Try.underlying26
 have HR0_1 := Aq.mk hr0_1
 have HC0_1 := Aq.mk hc0_1
 clear hr0_1 hc0_1
 have HR1_1 := Aq.mk hr1_1
 have HC1_1 := Aq.mk hc1_1
 clear hr1_1 hc1_1
 have HB := Aq.mk (Below.refl w.heap.size w)
 have H : ((qa0.f k a0_0 l0_1).bind fun t444 => (if t444 = true then ((qa0.f k a1_0 l1_1).bind fun t445 => (qam.j0 k (!t445) a0_0 l0_1 a1_0 l1_1)) else (qam.j0 k true a0_0 l0_1 a1_0 l1_1))) = some r := h
 clear h
 have HC3 := Aq.mk H
 clear H
 go_enter Try.func70, Try.ntmps70
 go_upto_region 1 with (first | ((with_reducible refine gQd (N := 2) rfl ?_); refine xQe ?hg (N := 2) ?hd (cs := #[.int .i64 a0_0, .slice A0_1 l0_1.length c0_1]) (t := 26) ?hr ?_; (case hd => rfl); (case hg => rfl); (case hr => first | (go_simp; done) | (go_simp; rfl)); intro gb442 hg w4 hbox hb; have BK442 := Aq.mk (hbox); have GW442 := Aq.mk ((by rw [hg]; exact (bQZ (by repeat (with_reducible first | exact HB.out | apply bQA | apply bQN | apply bQ1))) : w.heap.size ≤ gb442)); have GE442 := Aq.mk ((by rw [hg]; exact (bQZ (by repeat (with_reducible first | exact HB.out | apply bQA | apply bQN | apply bQ1))) : w.heap.size ≤ gb442)); replace HB := Aq.mk (bQT (by repeat (with_reducible first | exact HB.out | apply bQA | apply bQN | apply bQ1)) hb); clear hb hbox hg) | ((with_reducible refine gQd (N := 3) rfl ?_); refine xQe ?hg (N := 3) ?hd (cs := #[.int .i64 a1_0, .slice A1_1 l1_1.length c1_1]) (t := 26) ?hr ?_; (case hd => rfl); (case hg => rfl); (case hr => first | (go_simp; done) | (go_simp; rfl)); intro gb443 hg w5 hbox hb; have BK443 := Aq.mk (hbox); have GW443 := Aq.mk ((by rw [hg]; exact (bQZ (by repeat (with_reducible first | exact HB.out | apply bQA | apply bQN | apply bQ1 | refine bQS ?_ GE442.out))) : w.heap.size ≤ gb443)); have GE443 := Aq.mk ((by rw [hg]; exact (bQZ (by repeat (with_reducible first | exact HB.out | apply bQA | apply bQN | apply bQ1 | refine bQS ?_ GE442.out))) : w.heap.size ≤ gb443)); replace HB := Aq.mk (bQT (by repeat (with_reducible first | exact HB.out | apply bQA | apply bQN | apply bQ1 | refine bQS ?_ GE442.out)) hb); have NB442_443 := Aq.mk ((by rw [hg]; exact Nat.ne_of_lt (qbo (g := gb442) (o := .cells #[.int .i64 a0_0, .slice A0_1 l0_1.length c0_1] 26 (0, 0)) (by (with_reducible repeat (first | refine kQN ?_ _ | refine kQD ?_ | refine kQA ?_ _)); exact BK442.out)) : gb442 ≠ gb443)); have NB443_442 := Aq.mk ((by rw [hg]; exact Nat.ne_of_gt (qbo (g := gb442) (o := .cells #[.int .i64 a0_0, .slice A0_1 l0_1.length c0_1] 26 (0, 0)) (by (with_reducible repeat (first | refine kQN ?_ _ | refine kQD ?_ | refine kQA ?_ _)); exact BK442.out)) : gb443 ≠ gb442)); replace BK442 := Aq.mk (kQB (g := gb442) (o := .cells #[.int .i64 a0_0, .slice A0_1 l0_1.length c0_1] 26 (0, 0)) (by (with_reducible repeat (first | refine kQN ?_ _ | refine kQD ?_ | refine kQA ?_ _)); exact BK442.out) hb); clear hb hbox hg))
 (try simp only [Act.put, qSa, qSb, qSc])
 go_cut [5] (fun v5 wc => ∃ (kq : Nat) (x5_2 : Bool), v5 = .bool x5_2 ∧ Aq (qam.j0 kq x5_2 a0_0 l0_1 a1_0 l1_1 = some r) ∧ Aq (kq ≤ k) ∧ Aq (wc.heap[gb442]? = some (.cells #[.int .i64 a0_0, (.slice A0_1 l0_1.length c0_1)] 26 (0, 0))) ∧ Aq (wc.heap[gb443]? = some (.cells #[.int .i64 a1_0, (.slice A1_1 l1_1.length c1_1)] 26 (0, 0))) ∧ Aq (Below w.heap.size w wc))
 case first =>
  have H := HC3.out
  clear HC3
  replace H := Option.bind_eq_some_iff.mp H
  obtain ⟨t444, A60, H⟩ := H
  replace H : (if t444 = true then ((qa0.f k a1_0 l1_1).bind fun t445 => (qam.j0 k (!t445) a0_0 l0_1 a1_0 l1_1)) else (qam.j0 k true a0_0 l0_1 a1_0 l1_1)) = some r := H
  have A6 := Aq.mk A60
  clear A60
  by_cases c7 : t444 = true
  ·subst c7
   have H1 : ((qa0.f k a1_0 l1_1).bind fun t445 => (qam.j0 k (!t445) a0_0 l0_1 a1_0 l1_1)) = some r := by rw [if_pos rfl] at H; exact H
   clear H
   have H := H1
   clear H1
   replace H := Option.bind_eq_some_iff.mp H
   obtain ⟨t445, A80, H⟩ := H
   replace H : (qam.j0 k (!t445) a0_0 l0_1 a1_0 l1_1) = some r := H
   have A8 := Aq.mk A80
   clear A80
   have H' := Aq.mk H
   clear H
   have hnb9 := NB442_443.out
   have hnc9 := NB443_442.out
   have hcz10_0 : w5.cell? ⟨gb442, 0, none⟩ = some (.int .i64 a0_0) := (kQC BK442.out 0).trans rfl
   have hcz10_1 : w5.cell? ⟨gb442, 1, none⟩ = some (.slice A0_1 l0_1.length c0_1) := (kQC BK442.out 1).trans rfl
   have hfz10_0 := kQF BK442.out 0
   have hfz10_1 := kQF BK442.out 1
   go_wp2_with (first | ((with_reducible refine gQc (f := 75) rfl ?_); refine qbz (some 7) rfl rfl Try.func75 (by kernel_rfl) rfl #[.agg #[.int .i64 a0_0, .slice A0_1 l0_1.length c0_1]] rfl (by (try simp only [List.map_toArray, List.map_cons, List.map_nil]); first | done | rfl | (simp only [List.length_drop, List.length_take]; rfl)) ?_; (with_reducible refine (qa0.calls k a0_0 _ _ l0_1 true _ ?side1 ?side2 A6.out).mono ?_); (case side1 => repeat (first | exact (Kd.qbt HR0_1.out HB.out) | (with_reducible refine Kd.CqA ?_ _) | (with_reducible refine Kd.CqN ?_ _) | (with_reducible refine Kd.CqD ?_))); (case side2 => exact HC0_1.out); rintro e w11 ⟨rfl, hb⟩; refine ⟨_, rfl, ?_⟩; replace BK442 := Aq.mk (kQB (g := gb442) (o := .cells #[.int .i64 a0_0, .slice A0_1 l0_1.length c0_1] 26 (0, 0)) (by (with_reducible repeat (first | refine kQN ?_ _ | refine kQD ?_ | refine kQA ?_ _)); exact BK442.out) hb); replace BK443 := Aq.mk (kQB (g := gb443) (o := .cells #[.int .i64 a1_0, .slice A1_1 l1_1.length c1_1] 26 (0, 0)) (by (with_reducible repeat (first | refine kQN ?_ _ | refine kQD ?_ | refine kQA ?_ _)); exact BK443.out) hb); replace HB := Aq.mk (bQT (by repeat (with_reducible first | exact HB.out | apply bQA | apply bQN | apply bQ1 | refine bQS ?_ GE442.out | refine bQS ?_ GE443.out)) hb); (try clear hb); (try clear hb2); (try clear hk); (try clear hi); have hcz12_0 : w11.cell? ⟨gb443, 0, none⟩ = some (.int .i64 a1_0) := (kQC BK443.out 0).trans rfl; have hcz12_1 : w11.cell? ⟨gb443, 1, none⟩ = some (.slice A1_1 l1_1.length c1_1) := (kQC BK443.out 1).trans rfl; have hfz12_0 := kQF BK443.out 0; have hfz12_1 := kQF BK443.out 1) | (go_at_call 75; (with_reducible refine (qa0.calls k a1_0 _ _ l1_1 t445 _ ?side1 ?side2 A8.out).mono ?_); (case side1 => repeat (first | exact (Kd.qbt HR1_1.out HB.out) | (with_reducible refine Kd.CqA ?_ _) | (with_reducible refine Kd.CqN ?_ _) | (with_reducible refine Kd.CqD ?_))); (case side2 => exact HC1_1.out); rintro e w13 ⟨rfl, hb⟩; replace BK442 := Aq.mk (kQB (g := gb442) (o := .cells #[.int .i64 a0_0, .slice A0_1 l0_1.length c0_1] 26 (0, 0)) (by (with_reducible repeat (first | refine kQN ?_ _ | refine kQD ?_ | refine kQA ?_ _)); exact BK442.out) hb); replace BK443 := Aq.mk (kQB (g := gb443) (o := .cells #[.int .i64 a1_0, .slice A1_1 l1_1.length c1_1] 26 (0, 0)) (by (with_reducible repeat (first | refine kQN ?_ _ | refine kQD ?_ | refine kQA ?_ _)); exact BK443.out) hb); replace HB := Aq.mk (bQT (by repeat (with_reducible first | exact HB.out | apply bQA | apply bQN | apply bQ1 | refine bQS ?_ GE442.out | refine bQS ?_ GE443.out)) hb); (try clear hb); (try clear hb2); (try clear hk); (try clear hi)))
   go_meet
   case rel => exact ⟨_, (!t445), (by first | rfl | (simp; done) | (simp [*]; done)), H', ⟨by first | omega | exact Nat.le_refl _⟩, ⟨by (with_reducible repeat (first | refine kQN ?_ _ | refine kQD ?_ | refine kQA ?_ _)); exact BK442.out⟩, ⟨by (with_reducible repeat (first | refine kQN ?_ _ | refine kQD ?_ | refine kQA ?_ _)); exact BK443.out⟩, ⟨by repeat (first | (with_reducible first | exact HB.out | apply bQA | apply bQN | apply bQ1 | refine bQS ?_ GE442.out | refine bQS ?_ GE443.out) | exact HB.out)⟩⟩
  ·replace c7 := Bool.eq_false_iff.mpr c7
   subst c7
   have H1 : (qam.j0 k true a0_0 l0_1 a1_0 l1_1) = some r := by rw [if_neg (show ¬ (false = true) by decide)] at H; exact H
   clear H
   have H := H1
   clear H1
   have H' := Aq.mk H
   clear H
   have hnb14 := NB442_443.out
   have hnc14 := NB443_442.out
   have hcz15_0 : w5.cell? ⟨gb442, 0, none⟩ = some (.int .i64 a0_0) := (kQC BK442.out 0).trans rfl
   have hcz15_1 : w5.cell? ⟨gb442, 1, none⟩ = some (.slice A0_1 l0_1.length c0_1) := (kQC BK442.out 1).trans rfl
   have hfz15_0 := kQF BK442.out 0
   have hfz15_1 := kQF BK442.out 1
   go_wp2_with (first | ((with_reducible refine gQc (f := 75) rfl ?_); refine qbz (some 7) rfl rfl Try.func75 (by kernel_rfl) rfl #[.agg #[.int .i64 a0_0, .slice A0_1 l0_1.length c0_1]] rfl (by (try simp only [List.map_toArray, List.map_cons, List.map_nil]); first | done | rfl | (simp only [List.length_drop, List.length_take]; rfl)) ?_; (with_reducible refine (qa0.calls k a0_0 _ _ l0_1 false _ ?side1 ?side2 A6.out).mono ?_); (case side1 => repeat (first | exact (Kd.qbt HR0_1.out HB.out) | (with_reducible refine Kd.CqA ?_ _) | (with_reducible refine Kd.CqN ?_ _) | (with_reducible refine Kd.CqD ?_))); (case side2 => exact HC0_1.out); rintro e w16 ⟨rfl, hb⟩; refine ⟨_, rfl, ?_⟩; replace BK442 := Aq.mk (kQB (g := gb442) (o := .cells #[.int .i64 a0_0, .slice A0_1 l0_1.length c0_1] 26 (0, 0)) (by (with_reducible repeat (first | refine kQN ?_ _ | refine kQD ?_ | refine kQA ?_ _)); exact BK442.out) hb); replace BK443 := Aq.mk (kQB (g := gb443) (o := .cells #[.int .i64 a1_0, .slice A1_1 l1_1.length c1_1] 26 (0, 0)) (by (with_reducible repeat (first | refine kQN ?_ _ | refine kQD ?_ | refine kQA ?_ _)); exact BK443.out) hb); replace HB := Aq.mk (bQT (by repeat (with_reducible first | exact HB.out | apply bQA | apply bQN | apply bQ1 | refine bQS ?_ GE442.out | refine bQS ?_ GE443.out)) hb); (try clear hb); (try clear hb2); (try clear hk); (try clear hi)))
   go_meet
   case rel => exact ⟨_, (true), (by first | rfl | (simp; done) | (simp [*]; done)), H', ⟨by first | omega | exact Nat.le_refl _⟩, ⟨by (with_reducible repeat (first | refine kQN ?_ _ | refine kQD ?_ | refine kQA ?_ _)); exact BK442.out⟩, ⟨by (with_reducible repeat (first | refine kQN ?_ _ | refine kQD ?_ | refine kQA ?_ _)); exact BK443.out⟩, ⟨by repeat (first | (with_reducible first | exact HB.out | apply bQA | apply bQN | apply bQ1 | refine bQS ?_ GE442.out | refine bQS ?_ GE443.out) | exact HB.out)⟩⟩
 case rest =>
  clear HC3
  try clear c1
  try clear p2
  try clear c7
  try clear c9
  try clear c14
  try clear hcz10_0
  try clear hcz10_1
  try clear hcz12_0
  try clear hcz12_1
  try clear hcz15_0
  try clear hcz15_1
  try clear hfz10_0
  try clear hfz10_1
  try clear hfz12_0
  try clear hfz12_1
  try clear hfz15_0
  try clear hfz15_1
  obtain ⟨kq, x5_2, rfl, HA, HJ2, BK442, BK443, HB⟩ := hcut
  cases kq with
  | zero => exact absurd HA.out (by simp [qam.j0])
  | succ kj2 =>
   have H := HA.out
   clear HA
   simp only [qam.j0] at H
   by_cases c17 : x5_2 = true
   ·subst c17
    have H1 : (some 1) = some r := by rw [if_pos rfl] at H; exact H
    clear H
    have H := H1
    clear H1
    obtain rfl := Option.some.inj H
    go_wp2
    go_ret
    exact ⟨by first | rfl | (simp [errW_none, errW_some] <;> rfl) | (simp [*, errW_none, errW_some] <;> rfl), by repeat (first | (with_reducible first | exact HB.out | apply bQA | apply bQN | apply bQ1 | refine bQS ?_ GE442.out | refine bQS ?_ GE443.out) | exact HB.out)⟩
   ·replace c17 := Bool.eq_false_iff.mpr c17
    subst c17
    have H1 : (if a0_0 = a1_0 then (some 0) else (some 2)) = some r := by rw [if_neg (show ¬ (false = true) by decide)] at H; exact H
    clear H
    have H := H1
    clear H1
    by_cases c18 : a0_0 = a1_0
    ·rw [if_pos c18] at H
     have c18b0 : (a0_0 == a1_0) = true := beq_iff_eq.mpr c18
     have c18b1 : (a0_0 != a1_0) = false := bne_eq_false_iff_eq.mpr c18
     clear c18
     obtain rfl := Option.some.inj H
     have hnb19 := NB442_443.out
     have hnc19 := NB443_442.out
     have hcz20_0 : wc.cell? ⟨gb442, 0, none⟩ = some (.int .i64 a0_0) := (kQC BK442.out 0).trans rfl
     have hcz20_1 : wc.cell? ⟨gb442, 1, none⟩ = some (.slice A0_1 l0_1.length c0_1) := (kQC BK442.out 1).trans rfl
     have hfz20_0 := kQF BK442.out 0
     have hfz20_1 := kQF BK442.out 1
     have hcz21_0 : wc.cell? ⟨gb443, 0, none⟩ = some (.int .i64 a1_0) := (kQC BK443.out 0).trans rfl
     have hcz21_1 : wc.cell? ⟨gb443, 1, none⟩ = some (.slice A1_1 l1_1.length c1_1) := (kQC BK443.out 1).trans rfl
     have hfz21_0 := kQF BK443.out 0
     have hfz21_1 := kQF BK443.out 1
     go_wp2
     go_ret
     exact ⟨by first | rfl | (simp [errW_none, errW_some] <;> rfl) | (simp [*, errW_none, errW_some] <;> rfl), by repeat (first | (with_reducible first | exact HB.out | apply bQA | apply bQN | apply bQ1 | refine bQS ?_ GE442.out | refine bQS ?_ GE443.out) | exact HB.out)⟩
    ·rw [if_neg c18] at H
     have c18b0 : (a0_0 == a1_0) = false := beq_eq_false_iff_ne.mpr c18
     have c18b1 : (a0_0 != a1_0) = true := bne_iff_ne.mpr c18
     obtain rfl := Option.some.inj H
     have hnb22 := NB442_443.out
     have hnc22 := NB443_442.out
     have hcz23_0 : wc.cell? ⟨gb442, 0, none⟩ = some (.int .i64 a0_0) := (kQC BK442.out 0).trans rfl
     have hcz23_1 : wc.cell? ⟨gb442, 1, none⟩ = some (.slice A0_1 l0_1.length c0_1) := (kQC BK442.out 1).trans rfl
     have hfz23_0 := kQF BK442.out 0
     have hfz23_1 := kQF BK442.out 1
     have hcz24_0 : wc.cell? ⟨gb443, 0, none⟩ = some (.int .i64 a1_0) := (kQC BK443.out 0).trans rfl
     have hcz24_1 : wc.cell? ⟨gb443, 1, none⟩ = some (.slice A1_1 l1_1.length c1_1) := (kQC BK443.out 1).trans rfl
     have hfz24_0 := kQF BK443.out 0
     have hfz24_1 := kQF BK443.out 1
     go_wp2
     go_ret
     exact ⟨by first | rfl | (simp [errW_none, errW_some] <;> rfl) | (simp [*, errW_none, errW_some] <;> rfl), by repeat (first | (with_reducible first | exact HB.out | apply bQA | apply bQN | apply bQ1 | refine bQS ?_ GE442.out | refine bQS ?_ GE443.out) | exact HB.out)⟩
end Go.Proofs.Ytbaicdgkpnbipaa.P
