/- Printed functions. -/
import Derived.Test.YtbaicdgkpnbipaaPx0
import Derived.Test.YtbaicdgkpnbipaaPx3
namespace Go.Proofs.Ytbaicdgkpnbipaa.P
open Go.Shelf Go.RowKit Go.Proofs.YtbaicdgkpnbipaaW.PrintWords Go.Proofs.YtbaicdgkpnbipaaW.PrintLast Go.Proofs.YtbaicdgkpnbipaaW.PrintMore
attribute [local go_sem] max2_int min2_int max_two min_two max_three min_three max_four min_four
set_option linter.unusedVariables false
set_option linter.unusedSimpArgs false
mutual
def qaf.l0 : Nat → List Int → Int → Int → Option (List Int)
  | 0, _, _, _ => none
  | k + 1, x0, x3, x178000 => if x178000 < 62 then (qaf.j1 k x0 x3 (decide (x3 < (x0.length : Int))) x178000) else (qaf.j1 k x0 x3 false x178000)
def qaf.j1 : Nat → List Int → Int → Bool → Int → Option (List Int)
  | 0, _, _, _, _ => none
  | k + 1, x0, x3, x16, x178000 => if x16 = true then (if 0 ≤ x3 then (if x3 ≤ (x0.length : Int) then ((qad.f k (x0.drop (x3 : Int).toNat) x178000).bind fun t185 => (if t185 < 0 then (qaf.l0 k x0 x3 (wrap64 (x178000 + 1))) else (if 0 ≤ (wrap64 (x3 + t185)) then (if (wrap64 (x3 + t185)) < (x0.length : Int) then (if x3 < (x0.length : Int) then (qaf.l1 k ((x0.set (x3 : Int).toNat (rd x0 (wrap64 (x3 + t185)))).set ((wrap64 (x3 + t185)) : Int).toNat (rd x0 x3)) x3 (x0.length : Int) 0 x178000) else (none)) else (none)) else (none)))) else (none)) else (none)) else (if 0 ≤ x3 then (if x3 ≤ (x0.length : Int) then (some (x0.take (x3 : Int).toNat)) else (none)) else (none))
def qaf.l1 : Nat → List Int → Int → Int → Int → Int → Option (List Int)
  | 0, _, _, _, _, _ => none
  | k + 1, x0, x3, x45, x46, x178000 => if x46 < x45 then (if x46 = x3 then (qaf.l1 k x0 x3 x45 (wrap64 (x46 + 1)) x178000) else (if 0 ≤ x46 then (if x46 < (x0.length : Int) then (if 0 ≤ x178000 then (if (Go.bits .and .i64 (shr .i64 (rd x0 x46) x178000) 1) = 1 then (if 0 ≤ x3 then (if x3 < (x0.length : Int) then (qaf.l1 k (x0.set (x46 : Int).toNat (Go.bits .xor .i64 (rd x0 x46) (rd x0 x3))) x3 x45 (wrap64 (x46 + 1)) x178000) else (none)) else (none)) else (qaf.l1 k x0 x3 x45 (wrap64 (x46 + 1)) x178000)) else (none)) else (none)) else (none))) else (qaf.l0 k x0 (wrap64 (x3 + 1)) (wrap64 (x178000 + 1)))
end
def qaf.f (k : Nat) (l0 : List Int) : Option (List Int) := (qba.f l0).bind fun t174 => (qaf.l0 k t174 0 0)
theorem qaf.mono_l : ∀ k, (∀ y0 y1 y2, LeO (qaf.l0 k y0 y1 y2) (qaf.l0 (k + 1) y0 y1 y2)) ∧ (∀ y0 y1 y2 y3, LeO (qaf.j1 k y0 y1 y2 y3) (qaf.j1 (k + 1) y0 y1 y2 y3)) ∧ (∀ y0 y1 y2 y3 y4, LeO (qaf.l1 k y0 y1 y2 y3 y4) (qaf.l1 (k + 1) y0 y1 y2 y3 y4))
 | 0 => ⟨fun _ _ _ r h => by simp [qaf.l0] at h, fun _ _ _ _ r h => by simp [qaf.j1] at h, fun _ _ _ _ _ r h => by simp [qaf.l1] at h⟩
 | k + 1 => by
  obtain ⟨ih0, ih1, ih2⟩ := qaf.mono_l k
  refine ⟨?_, ?_, ?_⟩
  ·intro y0 y1 y2
   unfold qaf.l0
   repeat' first
   | (with_reducible first | exact ih0 _ _ _ | exact ih1 _ _ _ _ | exact ih2 _ _ _ _ _ | exact qad.mono _ _ _ | exact LeO.refl _ | exact LeO.none _ | refine LeO.ite ?_ ?_ | refine LeO.bind ?_ (fun _ => ?_))
   | exact LeO.none _
   | refine LeO.ite ?_ ?_
   | refine LeO.bind ?_ (fun _ => ?_)
  ·intro y0 y1 y2 y3
   unfold qaf.j1
   repeat' first
   | (with_reducible first | exact ih0 _ _ _ | exact ih1 _ _ _ _ | exact ih2 _ _ _ _ _ | exact qad.mono _ _ _ | exact LeO.refl _ | exact LeO.none _ | refine LeO.ite ?_ ?_ | refine LeO.bind ?_ (fun _ => ?_))
   | exact LeO.none _
   | refine LeO.ite ?_ ?_
   | refine LeO.bind ?_ (fun _ => ?_)
  ·intro y0 y1 y2 y3 y4
   unfold qaf.l1
   repeat' first
   | (with_reducible first | exact ih0 _ _ _ | exact ih1 _ _ _ _ | exact ih2 _ _ _ _ _ | exact qad.mono _ _ _ | exact LeO.refl _ | exact LeO.none _ | refine LeO.ite ?_ ?_ | refine LeO.bind ?_ (fun _ => ?_))
   | exact LeO.none _
   | refine LeO.ite ?_ ?_
   | refine LeO.bind ?_ (fun _ => ?_)
theorem qaf.mono : ∀ a0 k, LeO (qaf.f k a0) (qaf.f (k + 1) a0) := by
 intro a0 k
 obtain ⟨ih0, ih1, ih2⟩ := qaf.mono_l k
 unfold qaf.f
 repeat' first
  | (with_reducible first | exact ih0 _ _ _ | exact ih1 _ _ _ _ | exact ih2 _ _ _ _ _ | exact qad.mono _ _ _ | exact LeO.refl _ | exact LeO.none _ | refine LeO.ite ?_ ?_ | refine LeO.bind ?_ (fun _ => ?_))
  | exact LeO.none _
  | refine LeO.ite ?_ ?_
  | refine LeO.bind ?_ (fun _ => ?_)
def qaf.T8 : Bool × List (List Nat × List Nat) := (true, [([], []), ([], []), ([], []), ([], []), ([], []), ([3, 4], [3, 4]), ([], []), ([], []), ([], []), ([7, 8], [7, 8]), ([6, 9], [6, 9]), ([10], [10]), ([], []), ([], []), ([12, 13], [12, 13]), ([14], [14]), ([0, 1, 0, 1, 6, 7, 8, 9, 10, 11, 15], [0, 1]), ([16, 11, 0, 1, 6, 7, 8, 9, 10, 11, 15], [11, 16]), ([2, 5, 0, 1, 2, 3, 4, 5, 6, 7, 8, 9, 10, 11, 12, 13, 14, 15, 16, 17], [2, 5]), ([18, 15, 17, 0, 1, 2, 3, 4, 5, 6, 7, 8, 9, 10, 11, 12, 13, 14, 15, 16, 17], [15, 18])])
def qaf.B8 : List Nat := [0, 0, 0, 0, 0, 24, 0, 0, 0, 384, 960, 1984, 0, 0, 12288, 28672, 65475, 131011, 262143, 524287]
theorem qaf.tab8 : rtab .any (opsOf Try.f66 8) = qaf.T8 := by kernel_rfl
theorem qaf.bits8 : waitsOk qaf.T8.2 qaf.B8 = true := by kernel_rfl
def qaf.T12 : Bool × List (List Nat × List Nat) := (true, [([], []), ([], []), ([0, 1], [0, 1]), ([2], [2]), ([3], [3]), ([3], [3]), ([4, 5, 3], [3, 4, 5]), ([6, 3], [3, 6]), ([3], [3]), ([7, 8, 3], [3, 7, 8]), ([9, 3], [3, 9]), ([10, 3], [3, 10]), ([3, 11], [3, 11])])
def qaf.B12 : List Nat := [0, 0, 3, 7, 15, 15, 63, 127, 15, 511, 1023, 2047, 4095]
theorem qaf.tab12 : rtab .any (opsOf Try.f66 12) = qaf.T12 := by kernel_rfl
theorem qaf.bits12 : waitsOk qaf.T12.2 qaf.B12 = true := by kernel_rfl
def qaf.T13 : Bool × List (List Nat × List Nat) := (true, [([], []), ([], []), ([0, 1], [0, 1]), ([2], [2]), ([], []), ([], []), ([4, 5], [4, 5]), ([6], [6]), ([3, 7], [3, 7]), ([0, 1, 0, 1, 2, 3, 4, 5, 6, 7, 8], [0, 1]), ([9, 8, 0, 1, 2, 3, 4, 5, 6, 7, 8], [8, 9])])
def qaf.B13 : List Nat := [0, 0, 3, 7, 0, 0, 48, 112, 255, 511, 1023]
theorem qaf.tab13 : rtab .any (opsOf Try.f66 13) = qaf.T13 := by kernel_rfl
theorem qaf.bits13 : waitsOk qaf.T13.2 qaf.B13 = true := by kernel_rfl
set_option maxHeartbeats 8000000 in
set_option maxRecDepth 100000 in
theorem qaf.calls (k : Nat) (A0 : Option Addr) (c0 : Nat) (l0 : List Int) (r : List Int) (w : World) (hr0 : Kd.C (Kd.int .i64) w A0 l0.length l0) (hc0 : l0.length ≤ c0) (h : qaf.f k l0 = some r) :
 Calls Try.prog 66 #[.slice A0 l0.length c0] w fun e w' => ∃ v0_ : Value, e = .returned (v0_) ∧ Kd.R (Kd.int .i64) 2 w' w.heap.size (fun _ => True) v0_ r ∧ Below w.heap.size w w' := by
 have HR0 := Aq.mk hr0
 have HC0 := Aq.mk hc0
 clear hr0 hc0
 have HB := Aq.mk (Below.refl w.heap.size w)
 have H : ((qba.f l0).bind fun t174 => (qaf.l0 k t174 0 0)) = some r := h
 clear h
 replace H := Option.bind_eq_some_iff.mp H
 obtain ⟨t174, A20, H⟩ := H
 replace H : (qaf.l0 k t174 0 0) = some r := H
 have A2 := Aq.mk A20
 clear A20
 have H' := Aq.mk H
 clear H
 go_enter Try.func66, Try.ntmps66
 go_wp2_with (first | ((with_reducible refine gQc (f := 102) rfl ?_); refine qbz (some 8) rfl rfl Try.func102 (by kernel_rfl) rfl #[.slice A0 l0.length c0] rfl (by (try simp only [List.map_toArray, List.map_cons, List.map_nil]); first | done | rfl | (simp only [List.length_drop, List.length_take]; rfl)) ?_; (with_reducible refine (qba.calls _ _ l0 t174 _ ?side1 ?side2 A2.out).mono ?_); (case side1 => repeat (first | exact HR0.out | (with_reducible refine Kd.CqA ?_ _) | (with_reducible refine Kd.CqN ?_ _) | (with_reducible refine Kd.CqD ?_))); (case side2 => exact HC0.out); rintro e w3 ⟨v175, rfl, ho0, hb⟩; refine ⟨_, rfl, ?_⟩; have HO176 := Aq.mk (Kd.qbx ho0 (bQZ (by repeat (with_reducible first | exact HB.out | apply bQA | apply bQN | apply bQ1)))); replace HB := Aq.mk (bQT (by repeat (with_reducible first | exact HB.out | apply bQA | apply bQN | apply bQ1)) hb); (try clear hb); (try clear hb2); (try clear hk); (try clear hi); (try clear ho0)) | ((with_reducible refine gQd (N := 4) rfl ?_); (try (refine gate_guard (by rfl) ?_; dsimp only)); refine xQe ?hg (N := 4) ?hd (cs := #[.int .i64 0]) (t := 3) ?hr ?_; (case hd => rfl); (case hg => rfl); (case hr => first | (go_simp; done) | (go_simp; rfl)); intro gb177 hg w4 hbox hb; replace HO176 := Aq.mk (Kd.qbk (by (with_reducible repeat (first | apply rA | apply rN | apply rD)); exact HO176.out) hb); have BK177 := Aq.mk (hbox); have GW177 := Aq.mk ((by rw [hg]; exact (bQZ (by repeat (with_reducible first | exact HB.out | apply bQA | apply bQN | apply bQ1))) : w.heap.size ≤ gb177)); have GE177 := Aq.mk ((by rw [hg]; exact (bQZ (by repeat (with_reducible first | exact HB.out | apply bQA | apply bQN | apply bQ1))) : w.heap.size ≤ gb177)); replace HB := Aq.mk (bQT (by repeat (with_reducible first | exact HB.out | apply bQA | apply bQN | apply bQ1)) hb); clear hb hbox hg; have hcz5_0 : w4.cell? ⟨gb177, 0, none⟩ = some (.int .i64 0) := (kQC BK177.out 0).trans rfl; have hfz5_0 := kQF BK177.out 0))
 go_loopg [3, 4] k (fun kq v3 v4 w' => ∃ (gm177 : Nat) (x0_1 : List Int) (x3_1 : Int) (x178000_1 : Int), v4 = .pointer (some ⟨gm177, 0, none⟩) ∧ Aq (w.heap.size ≤ gm177) ∧ Aq (w.heap.size ≤ gm177) ∧ v3 = .int .i64 x3_1 ∧ Aq (qaf.l0 kq x0_1 x3_1 x178000_1 = some r) ∧ Aq (kq ≤ k) ∧ Aq (Kd.R (Kd.int .i64) 2 w' w.heap.size (fun _ => True) v175 x0_1) ∧ Aq (w'.heap[gm177]? = some (.cells #[.int .i64 x178000_1] 3 (0, 0))) ∧ Aq (Below w.heap.size w w'))
 case atStart => exact ⟨(gb177), (t174), (0), (0), rfl, GW177, GE177, (by first | rfl | (simp; done) | (simp [*]; done)), H', ⟨Nat.le_refl _⟩, ⟨by (with_reducible repeat (first | apply rA | apply rN | apply rD)); exact Kd.qbj (Kd.qbs (p := ⟨gb177, 0, none⟩) (Kd.qbq HO176.out BK177.out (by decide)) (fun _ hk => hk.2) (.int .i64 0)) (fun _ hk => trivial)⟩, ⟨by (with_reducible repeat (first | refine kQN ?_ _ | refine kQD ?_ | refine kQA ?_ _)); refine kQP (cs := #[.int .i64 0]) ?_ 0 _ rfl; (with_reducible repeat (first | refine kQN ?_ _ | refine kQD ?_ | refine kQA ?_ _)); exact BK177.out⟩, ⟨by repeat (first | (with_reducible first | exact HB.out | apply bQA | apply bQN | apply bQ1 | refine bQS ?_ GE177.out) | exact HB.out)⟩⟩
 case round =>
  clear H'
  try clear c1
  try clear p2
  try clear hcz5_0
  try clear hfz5_0
  obtain ⟨gm177, x0_1, x3_1, x178000_1, rfl, GW177, GE177, rfl, HA, HK1, HO_0, BK177, HB⟩ := hrel
  cases gk with
  | zero => exact absurd HA.out (by simp [qaf.l0])
  | succ k1 =>
   have H := HA.out
   clear HA
   simp only [qaf.l0] at H
   have HC6 := Aq.mk H
   clear H
   go_upto_region 4 with (fail)
   go_cut [16] (fun v16 wc => ∃ (kq : Nat) (x16_5 : Bool), v16 = .bool x16_5 ∧ Aq (qaf.j1 kq x0_1 x3_1 x16_5 x178000_1 = some r) ∧ Aq (kq ≤ k1) ∧ Aq (Kd.R (Kd.int .i64) 2 wc w.heap.size (fun _ => True) v175 x0_1) ∧ Aq (wc.heap[gm177]? = some (.cells #[.int .i64 x178000_1] 3 (0, 0))) ∧ Aq (Below w.heap.size w wc))
   case first =>
    have H := HC6.out
    clear HC6
    by_cases c7 : x178000_1 < 62
    ·rw [if_pos c7] at H
     have c7b0 : decide (x178000_1 < 62) = true := decide_eq_true c7
     clear c7
     (first | rw [c7b0] | (simp only [qbl, qbn]; rw [c7b0]) | skip)
     have H' := Aq.mk H
     clear H
     have hcz8_0 : wr.cell? ⟨gm177, 0, none⟩ = some (.int .i64 x178000_1) := (kQC BK177.out 0).trans rfl
     have hfz8_0 := kQF BK177.out 0
     obtain ⟨Ao9, co9, eo9⟩ := Kd.qbw HO_0.out
     subst eo9
     go_wp2
     go_meet
     case rel => exact ⟨_, (decide (x3_1 < (x0_1.length : Int))), (by first | rfl | (simp; done) | (simp [*]; done)), H', ⟨by have := HK1.out; first | omega | exact Nat.le_refl _⟩, ⟨by (with_reducible repeat (first | apply rA | apply rN | apply rD)); exact HO_0.out⟩, ⟨by (with_reducible repeat (first | refine kQN ?_ _ | refine kQD ?_ | refine kQA ?_ _)); exact BK177.out⟩, ⟨by repeat (first | (with_reducible first | exact HB.out | apply bQA | apply bQN | apply bQ1 | refine bQS ?_ GE177.out) | exact HB.out)⟩⟩
    ·rw [if_neg c7] at H
     have c7b0 : decide (x178000_1 < 62) = false := decide_eq_false c7
     clear c7
     (first | rw [c7b0] | (simp only [qbl, qbn]; rw [c7b0]) | skip)
     have H' := Aq.mk H
     clear H
     have hcz10_0 : wr.cell? ⟨gm177, 0, none⟩ = some (.int .i64 x178000_1) := (kQC BK177.out 0).trans rfl
     have hfz10_0 := kQF BK177.out 0
     go_wp2
     go_meet
     case rel => exact ⟨_, (false), (by first | rfl | (simp; done) | (simp [*]; done)), H', ⟨by have := HK1.out; first | omega | exact Nat.le_refl _⟩, ⟨by (with_reducible repeat (first | apply rA | apply rN | apply rD)); exact HO_0.out⟩, ⟨by (with_reducible repeat (first | refine kQN ?_ _ | refine kQD ?_ | refine kQA ?_ _)); exact BK177.out⟩, ⟨by repeat (first | (with_reducible first | exact HB.out | apply bQA | apply bQN | apply bQ1 | refine bQS ?_ GE177.out) | exact HB.out)⟩⟩
   case rest =>
    clear HC6
    try clear c1
    try clear p2
    try clear c6
    try clear c7
    try clear c7b0
    try clear c10
    try clear hcz10_0
    try clear hcz5_0
    try clear hcz8_0
    try clear hfz10_0
    try clear hfz5_0
    try clear hfz8_0
    try clear p2
    obtain ⟨kq, x16_5, rfl, HA, HJ5, HO_0, BK177, HB⟩ := hcut
    cases kq with
    | zero => exact absurd HA.out (by simp [qaf.j1])
    | succ kj5 =>
     have H := HA.out
     clear HA
     simp only [qaf.j1] at H
     by_cases c11 : x16_5 = true
     ·subst c11
      have H1 : (if 0 ≤ x3_1 then (if x3_1 ≤ (x0_1.length : Int) then ((qad.f kj5 (x0_1.drop (x3_1 : Int).toNat) x178000_1).bind fun t185 => (if t185 < 0 then (qaf.l0 kj5 x0_1 x3_1 (wrap64 (x178000_1 + 1))) else (if 0 ≤ (wrap64 (x3_1 + t185)) then (if (wrap64 (x3_1 + t185)) < (x0_1.length : Int) then (if x3_1 < (x0_1.length : Int) then (qaf.l1 kj5 ((x0_1.set (x3_1 : Int).toNat (rd x0_1 (wrap64 (x3_1 + t185)))).set ((wrap64 (x3_1 + t185)) : Int).toNat (rd x0_1 x3_1)) x3_1 (x0_1.length : Int) 0 x178000_1) else (none)) else (none)) else (none)))) else (none)) else (none)) = some r := by rw [if_pos rfl] at H; exact H
      clear H
      have H := H1
      clear H1
      by_cases c12 : 0 ≤ x3_1
      ·rw [if_pos c12] at H
       have c12b0 := eq_true c12
       have c12b1 : decide (0 ≤ x3_1) = true := decide_eq_true c12
       clear c12
       by_cases c13 : x3_1 ≤ (x0_1.length : Int)
       ·rw [if_pos c13] at H
        have c13b0 := eq_true c13
        have c13b1 : decide (x3_1 ≤ (x0_1.length : Int)) = true := decide_eq_true c13
        clear c13
        obtain ⟨y181, hy181⟩ : ∃ y_ : List Int, y_ = (x0_1.drop (x3_1 : Int).toNat) := ⟨_, rfl⟩
        replace H : ((qad.f kj5 y181 x178000_1).bind fun t185 => (if t185 < 0 then (qaf.l0 kj5 x0_1 x3_1 (wrap64 (x178000_1 + 1))) else (if 0 ≤ (wrap64 (x3_1 + t185)) then (if (wrap64 (x3_1 + t185)) < (x0_1.length : Int) then (if x3_1 < (x0_1.length : Int) then (qaf.l1 kj5 ((x0_1.set (x3_1 : Int).toNat (rd x0_1 (wrap64 (x3_1 + t185)))).set ((wrap64 (x3_1 + t185)) : Int).toNat (rd x0_1 x3_1)) x3_1 (x0_1.length : Int) 0 x178000_1) else (none)) else (none)) else (none)))) = some r := by first | (rw [hy181]; with_reducible exact H) | (have H2_ := (Option.bind_some _ _).symm.trans H; rw [hy181]; with_reducible exact H2_) | (have H2_ := (Option.bind_some _ _).symm.trans H; with_reducible exact H2_) | with_reducible exact H | (rw [hy181]; exact H) | exact H
        have Ny181 := Aq.mk hy181
        clear hy181
        replace H := Option.bind_eq_some_iff.mp H
        obtain ⟨t185, A140, H⟩ := H
        replace H : (if t185 < 0 then (qaf.l0 kj5 x0_1 x3_1 (wrap64 (x178000_1 + 1))) else (if 0 ≤ (wrap64 (x3_1 + t185)) then (if (wrap64 (x3_1 + t185)) < (x0_1.length : Int) then (if x3_1 < (x0_1.length : Int) then (qaf.l1 kj5 ((x0_1.set (x3_1 : Int).toNat (rd x0_1 (wrap64 (x3_1 + t185)))).set ((wrap64 (x3_1 + t185)) : Int).toNat (rd x0_1 x3_1)) x3_1 (x0_1.length : Int) 0 x178000_1) else (none)) else (none)) else (none))) = some r := H
        have A14 := Aq.mk A140
        clear A140
        by_cases c15 : t185 < 0
        ·rw [if_pos c15] at H
         have c15b0 : decide (t185 < 0) = true := decide_eq_true c15
         clear c15
         have H' := Aq.mk H
         clear H
         obtain ⟨Ao17, co17, eo17⟩ := Kd.qbw HO_0.out
         subst eo17
         have q16 : (x3_1 : Int) ≤ ((x0_1.length : Int) : Int) := of_decide_eq_true (by first | (with_reducible assumption) | assumption)
         obtain ⟨i016, hi016, _, hsz16, _⟩ := info_parts info2
         have hroom16 : x0_1.length ≤ co17 := (Kd.qbi HO_0.out).2.1
         have hC16 : Kd.C (Kd.int .i64) _ Ao17 x0_1.length x0_1 := (Kd.qbi HO_0.out).2.2
         have q016 : (0 : Int) ≤ (x3_1 : Int) := of_decide_eq_true (by first | (with_reducible assumption) | assumption)
         have hcut16 := cut_from (P := Try.prog) 22 2 .i64 Try.underlying22 hi016 1 hsz16 Ao17 x0_1.length co17 x3_1 q016 q16
         have hr16 := Kd.C_drop (m := (x3_1 : Int).toNat) (c := co17) hC16 (by omega) hroom16
         obtain ⟨A16, hA16⟩ : ∃ A1, A1 = (if co17 = (x3_1 : Int).toNat then Ao17 else (Ao17 : Option Addr).map (·.add ((x3_1 : Int).toNat * 1))) := ⟨_, rfl⟩
         obtain ⟨c16, hc16⟩ : ∃ c1, c1 = co17 - (x3_1 : Int).toNat := ⟨_, rfl⟩
         have hy16 : y181.length = x0_1.length - (x3_1 : Int).toNat := (by rw [Ny181.out, List.length_drop] <;> omega)
         rw [show (x0_1).drop (x3_1 : Int).toNat = y181 from Ny181.out.symm] at hr16
         replace hr16 : Kd.C (Kd.int .i64) _ A16 y181.length y181 := (by rw [hA16]; exact hr16)
         rw [← hy16, ← hA16, ← hc16] at hcut16
         have HR184 := Aq.mk hr16
         have HC184 := Aq.mk (show y181.length ≤ c16 from by rw [hy16, hc16]; exact Nat.sub_le_sub_right hroom16 _)
         clear hr16 hC16 hroom16 hi016 hsz16 hc16
         have KY16 := Aq.mk hy16
         have KA16 := Aq.mk hA16
         clear hy16 hA16
         have KL16 := Aq.mk (show (x3_1 : Int).toNat ≤ x0_1.length from by omega)
         replace q16 := eq_true q16
         go_wp2_with (first | ((with_reducible refine gQc (f := 103) rfl ?_); refine qbz (some 23) rfl rfl Try.func103 (by kernel_rfl) rfl #[.slice A16 y181.length c16, .func (.func 104) #[] #[.pointer (some ⟨gm177, 0, none⟩)]] rfl (by (try simp only [List.map_toArray, List.map_cons, List.map_nil]); first | done | rfl | (simp only [List.length_drop, List.length_take]; rfl)) ?_; (with_reducible refine (qad.calls kj5 _ _ y181 (⟨gm177, 0, none⟩ : Addr) x178000_1 t185 _ ?side1 ?side2 ?side3 A14.out).mono ?_); (case side1 => repeat (first | exact (by repeat (first | (with_reducible exact HR184.out) | (with_reducible refine Kd.CqA ?_ _) | (with_reducible refine Kd.CqN ?_ _) | (with_reducible refine Kd.CqD ?_) | exact HR184.out)) | (with_reducible refine Kd.CqA ?_ _) | (with_reducible refine Kd.CqN ?_ _) | (with_reducible refine Kd.CqD ?_))); (case side2 => exact HC184.out); (case side3 => exact AtC.of_blk (g := gm177) (t := 3) (cs := #[.int .i64 x178000_1]) (by (with_reducible repeat (first | refine kQN ?_ _ | refine kQD ?_ | refine kQA ?_ _)); exact BK177.out) rfl); rintro e w' ⟨rfl, ⟨nd, rfl⟩⟩; refine ⟨_, rfl, ?_⟩; (try (rw [drewN_self wc]; generalize hq_ : World.drewN wc _ = wc; have n0_ : Aq (Kd.R (Kd.int .i64) 2 wc w.heap.size (fun k_ => True) (.slice Ao17 x0_1.length co17) x0_1) := ⟨by rw [← hq_]; exact (by (with_reducible repeat (first | apply rA | apply rN | apply rD)); exact HO_0.out)⟩; have n1_ : Aq (wc.heap[gm177]? = some (.cells #[.int .i64 x178000_1] 3 (0, 0))) := ⟨by rw [← hq_]; exact (by (with_reducible repeat (first | refine kQN ?_ _ | refine kQD ?_ | refine kQA ?_ _)); exact BK177.out)⟩; have n2_ : Aq (Below w.heap.size w wc) := ⟨by rw [← hq_]; exact (by repeat (with_reducible first | exact HB.out | apply bQA | apply bQN | apply bQ1 | refine bQS ?_ GE177.out))⟩; have n3_ : Aq (Kd.C (Kd.int .i64) wc A16 y181.length y181) := ⟨by rw [← hq_]; exact (by repeat (first | (with_reducible exact HR184.out) | (with_reducible refine Kd.CqA ?_ _) | (with_reducible refine Kd.CqN ?_ _) | (with_reducible refine Kd.CqD ?_) | exact HR184.out))⟩; clear HO_0 BK177 HB HR184 hq_; have HO_0 := n0_; have BK177 := n1_; have HB := n2_; have HR184 := n3_; clear n0_ n1_ n2_ n3_)); have hcz18_0 : wc.cell? ⟨gm177, 0, none⟩ = some (.int .i64 x178000_1) := (kQC BK177.out 0).trans rfl; have hfz18_0 := kQF BK177.out 0) | ((with_reducible refine gQd (N := 4) rfl ?_); (try (refine gate_guard (by rfl) ?_; dsimp only)); refine xQe ?hg (N := 4) ?hd (cs := #[.int .i64 0]) (t := 3) ?hr ?_; (case hd => rfl); (case hg => rfl); (case hr => first | (go_simp; done) | (go_simp; rfl)); intro gb186 hg w19 hbox hb; replace HO_0 := Aq.mk (Kd.qbk (by (with_reducible repeat (first | apply rA | apply rN | apply rD)); exact HO_0.out) hb); replace HR184 := Aq.mk (Kd.qbt (by repeat (first | (with_reducible exact HR184.out) | (with_reducible refine Kd.CqA ?_ _) | (with_reducible refine Kd.CqN ?_ _) | (with_reducible refine Kd.CqD ?_) | exact HR184.out)) hb); have BK186 := Aq.mk (hbox); have GW186 := Aq.mk ((by rw [hg]; exact (bQZ (by repeat (with_reducible first | exact HB.out | apply bQA | apply bQN | apply bQ1 | refine bQS ?_ GE177.out))) : w.heap.size ≤ gb186)); have GE186 := Aq.mk ((by rw [hg]; exact (bQZ (by repeat (with_reducible first | exact HB.out | apply bQA | apply bQN | apply bQ1 | refine bQS ?_ GE177.out))) : w.heap.size ≤ gb186)); replace HB := Aq.mk (bQT (by repeat (with_reducible first | exact HB.out | apply bQA | apply bQN | apply bQ1 | refine bQS ?_ GE177.out)) hb); have NB177_186 := Aq.mk ((by rw [hg]; exact Nat.ne_of_lt (qbo (g := gm177) (o := .cells #[.int .i64 x178000_1] 3 (0, 0)) (by (with_reducible repeat (first | refine kQN ?_ _ | refine kQD ?_ | refine kQA ?_ _)); exact BK177.out)) : gm177 ≠ gb186)); have NB186_177 := Aq.mk ((by rw [hg]; exact Nat.ne_of_gt (qbo (g := gm177) (o := .cells #[.int .i64 x178000_1] 3 (0, 0)) (by (with_reducible repeat (first | refine kQN ?_ _ | refine kQD ?_ | refine kQA ?_ _)); exact BK177.out)) : gb186 ≠ gm177)); replace BK177 := Aq.mk (kQB (g := gm177) (o := .cells #[.int .i64 x178000_1] 3 (0, 0)) (by (with_reducible repeat (first | refine kQN ?_ _ | refine kQD ?_ | refine kQA ?_ _)); exact BK177.out) hb); clear hb hbox hg; have hnb20 := NB186_177.out; have hnc20 := NB177_186.out; have hcz21_0 : w19.cell? ⟨gb186, 0, none⟩ = some (.int .i64 0) := (kQC BK186.out 0).trans rfl; have hfz21_0 := kQF BK186.out 0))
         go_roundg kj5
         case measure => have := HK1.out; have := HJ5.out; omega
         case rel => exact ⟨(gb186), (x0_1), (x3_1), (wrap64 (x178000_1 + 1)), rfl, GW186, GE186, (by first | rfl | (simp; done) | (simp [*]; done)), H', ⟨by have := HK1.out; have := HJ5.out; omega⟩, ⟨by (with_reducible repeat (first | apply rA | apply rN | apply rD)); exact Kd.qbj (Kd.qbs (p := ⟨gb186, 0, none⟩) (Kd.qbs (p := ⟨gb186, 0, none⟩) (Kd.qbq HO_0.out BK186.out (by decide)) (fun _ hk => hk.2) (.int .i64 x178000_1)) (fun _ hk => hk.2) (.int .i64 (wrap64 (x178000_1 + 1)))) (fun _ hk => trivial)⟩, ⟨by (with_reducible repeat (first | refine kQN ?_ _ | refine kQD ?_ | refine kQA ?_ _)); refine kQP (cs := #[.int .i64 x178000_1]) ?_ 0 _ rfl; (with_reducible repeat (first | refine kQN ?_ _ | refine kQD ?_ | refine kQA ?_ _)); refine kQP (cs := #[.int .i64 0]) ?_ 0 _ rfl; (with_reducible repeat (first | refine kQN ?_ _ | refine kQD ?_ | refine kQA ?_ _)); exact BK186.out⟩, ⟨by repeat (first | (with_reducible first | exact HB.out | apply bQA | apply bQN | apply bQ1 | refine bQS ?_ GE177.out | refine bQS ?_ GE186.out) | exact HB.out)⟩⟩
        ·rw [if_neg c15] at H
         have c15b0 : decide (t185 < 0) = false := decide_eq_false c15
         clear c15
         obtain ⟨ji22, hji22⟩ : ∃ j_ : Int, (wrap64 (x3_1 + t185)) = j_ := ⟨_, rfl⟩
         replace H : (if 0 ≤ (ji22) then (if (ji22) < (x0_1.length : Int) then (if x3_1 < (x0_1.length : Int) then (qaf.l1 kj5 ((x0_1.set (x3_1 : Int).toNat (rd x0_1 (ji22))).set ((ji22) : Int).toNat (rd x0_1 x3_1)) x3_1 (x0_1.length : Int) 0 x178000_1) else (none)) else (none)) else (none)) = some r := by first | (rw [hji22] at H; exact H) | (simp only [hji22] at H ⊢; exact H)
         (try rw [hji22] at A14)
         have hji22w : (IntKind.i64.wrap (x3_1 + t185)) = ji22 := (qbl _).trans hji22
         by_cases c23 : 0 ≤ (ji22)
         ·rw [if_pos c23] at H
          have c23b0 : decide (0 ≤ (ji22)) = true := decide_eq_true c23
          clear c23
          by_cases c24 : (ji22) < (x0_1.length : Int)
          ·rw [if_pos c24] at H
           have c24b0 : decide ((ji22) < (x0_1.length : Int)) = true := decide_eq_true c24
           clear c24
           by_cases c25 : x3_1 < (x0_1.length : Int)
           ·rw [if_pos c25] at H
            have c25b0 : decide (x3_1 < (x0_1.length : Int)) = true := decide_eq_true c25
            clear c25
            obtain ⟨y189, hy189⟩ : ∃ y_ : List Int, y_ = (x0_1.set (x3_1 : Int).toNat (rd x0_1 (ji22))) := ⟨_, rfl⟩
            replace H : (qaf.l1 kj5 (y189.set ((ji22) : Int).toNat (rd x0_1 x3_1)) x3_1 (x0_1.length : Int) 0 x178000_1) = some r := by first | (rw [hy189]; with_reducible exact H) | (have H2_ := (Option.bind_some _ _).symm.trans H; rw [hy189]; with_reducible exact H2_) | (have H2_ := (Option.bind_some _ _).symm.trans H; with_reducible exact H2_) | with_reducible exact H | (rw [hy189]; exact H) | exact H
            have Ny189 := Aq.mk hy189
            clear hy189
            obtain ⟨y190, hy190⟩ : ∃ y_ : List Int, y_ = (y189.set ((ji22) : Int).toNat (rd x0_1 x3_1)) := ⟨_, rfl⟩
            replace H : (qaf.l1 kj5 y190 x3_1 (x0_1.length : Int) 0 x178000_1) = some r := by first | (rw [hy190]; with_reducible exact H) | (have H2_ := (Option.bind_some _ _).symm.trans H; rw [hy190]; with_reducible exact H2_) | (have H2_ := (Option.bind_some _ _).symm.trans H; with_reducible exact H2_) | with_reducible exact H | (rw [hy190]; exact H) | exact H
            have Ny190 := Aq.mk hy190
            clear hy190
            have H' := Aq.mk H
            clear H
            obtain ⟨Ao29, co29, eo29⟩ := Kd.qbw HO_0.out
            subst eo29
            have q28 : (x3_1 : Int) ≤ ((x0_1.length : Int) : Int) := of_decide_eq_true (by first | (with_reducible assumption) | assumption)
            obtain ⟨i028, hi028, _, hsz28, _⟩ := info_parts info2
            have hroom28 : x0_1.length ≤ co29 := (Kd.qbi HO_0.out).2.1
            have hC28 : Kd.C (Kd.int .i64) _ Ao29 x0_1.length x0_1 := (Kd.qbi HO_0.out).2.2
            have q028 : (0 : Int) ≤ (x3_1 : Int) := of_decide_eq_true (by first | (with_reducible assumption) | assumption)
            have hcut28 := cut_from (P := Try.prog) 22 2 .i64 Try.underlying22 hi028 1 hsz28 Ao29 x0_1.length co29 x3_1 q028 q28
            have hr28 := Kd.C_drop (m := (x3_1 : Int).toNat) (c := co29) hC28 (by omega) hroom28
            obtain ⟨A28, hA28⟩ : ∃ A1, A1 = (if co29 = (x3_1 : Int).toNat then Ao29 else (Ao29 : Option Addr).map (·.add ((x3_1 : Int).toNat * 1))) := ⟨_, rfl⟩
            obtain ⟨c28, hc28⟩ : ∃ c1, c1 = co29 - (x3_1 : Int).toNat := ⟨_, rfl⟩
            have hy28 : y181.length = x0_1.length - (x3_1 : Int).toNat := (by rw [Ny181.out, List.length_drop] <;> omega)
            rw [show (x0_1).drop (x3_1 : Int).toNat = y181 from Ny181.out.symm] at hr28
            replace hr28 : Kd.C (Kd.int .i64) _ A28 y181.length y181 := (by rw [hA28]; exact hr28)
            rw [← hy28, ← hA28, ← hc28] at hcut28
            have HR184 := Aq.mk hr28
            have HC184 := Aq.mk (show y181.length ≤ c28 from by rw [hy28, hc28]; exact Nat.sub_le_sub_right hroom28 _)
            clear hr28 hC28 hroom28 hi028 hsz28 hc28
            have KY28 := Aq.mk hy28
            have KA28 := Aq.mk hA28
            clear hy28 hA28
            have KL28 := Aq.mk (show (x3_1 : Int).toNat ≤ x0_1.length from by omega)
            replace q28 := eq_true q28
            try go_wp2_with (first | ((with_reducible refine gQc (f := 103) rfl ?_); refine qbz (some 23) rfl rfl Try.func103 (by kernel_rfl) rfl #[.slice A28 y181.length c28, .func (.func 104) #[] #[.pointer (some ⟨gm177, 0, none⟩)]] rfl (by (try simp only [List.map_toArray, List.map_cons, List.map_nil]); first | done | rfl | (simp only [List.length_drop, List.length_take]; rfl)) ?_; (with_reducible refine (qad.calls kj5 _ _ y181 (⟨gm177, 0, none⟩ : Addr) x178000_1 t185 _ ?side1 ?side2 ?side3 A14.out).mono ?_); (case side1 => repeat (first | exact (by repeat (first | (with_reducible exact HR184.out) | (with_reducible refine Kd.CqA ?_ _) | (with_reducible refine Kd.CqN ?_ _) | (with_reducible refine Kd.CqD ?_) | exact HR184.out)) | (with_reducible refine Kd.CqA ?_ _) | (with_reducible refine Kd.CqN ?_ _) | (with_reducible refine Kd.CqD ?_))); (case side2 => exact HC184.out); (case side3 => exact AtC.of_blk (g := gm177) (t := 3) (cs := #[.int .i64 x178000_1]) (by (with_reducible repeat (first | refine kQN ?_ _ | refine kQD ?_ | refine kQA ?_ _)); exact BK177.out) rfl); rintro e w' ⟨rfl, ⟨nd, rfl⟩⟩; refine ⟨_, rfl, ?_⟩; (try (rw [drewN_self wc]; generalize hq_ : World.drewN wc _ = wc; have n0_ : Aq (Kd.R (Kd.int .i64) 2 wc w.heap.size (fun k_ => True) (.slice Ao29 x0_1.length co29) x0_1) := ⟨by rw [← hq_]; exact (by (with_reducible repeat (first | apply rA | apply rN | apply rD)); exact HO_0.out)⟩; have n1_ : Aq (wc.heap[gm177]? = some (.cells #[.int .i64 x178000_1] 3 (0, 0))) := ⟨by rw [← hq_]; exact (by (with_reducible repeat (first | refine kQN ?_ _ | refine kQD ?_ | refine kQA ?_ _)); exact BK177.out)⟩; have n2_ : Aq (Below w.heap.size w wc) := ⟨by rw [← hq_]; exact (by repeat (with_reducible first | exact HB.out | apply bQA | apply bQN | apply bQ1 | refine bQS ?_ GE177.out))⟩; have n3_ : Aq (Kd.C (Kd.int .i64) wc A28 y181.length y181) := ⟨by rw [← hq_]; exact (by repeat (first | (with_reducible exact HR184.out) | (with_reducible refine Kd.CqA ?_ _) | (with_reducible refine Kd.CqN ?_ _) | (with_reducible refine Kd.CqD ?_) | exact HR184.out))⟩; clear HO_0 BK177 HB HR184 hq_; have HO_0 := n0_; have BK177 := n1_; have HB := n2_; have HR184 := n3_; clear n0_ n1_ n2_ n3_))))
            replace HO_0 := Aq.mk (Kd.RqD HO_0.out)
            replace BK177 := Aq.mk (kQD BK177.out)
            replace HR184 := Aq.mk (Kd.CqD HR184.out)
            replace HB := Aq.mk (bQ1 HB.out)
            have p187 : 0 ≤ ((ji22) : Int) := of_decide_eq_true (by first | (with_reducible assumption) | assumption)
            have q187 : (ji22) < (x0_1.length : Int) := of_decide_eq_true (by first | (with_reducible assumption) | assumption)
            obtain ⟨ad187, e187, hx187_0⟩ := Kd.at_int (Kd.qbi HO_0.out).2.2 (ji22) p187 q187
            cases e187
            replace p187 := eq_true p187
            replace q187 := eq_true q187
            have p188 : 0 ≤ (x3_1 : Int) := of_decide_eq_true (by first | (with_reducible assumption) | assumption)
            have q188 : x3_1 < (x0_1.length : Int) := of_decide_eq_true (by first | (with_reducible assumption) | assumption)
            obtain ⟨ad188, e188, hx188_0⟩ := Kd.at_int (Kd.qbi HO_0.out).2.2 x3_1 p188 q188
            obtain rfl : ad187 = ad188 := (by injection e188)
            replace p188 := eq_true p188
            replace q188 := eq_true q188
            have p26 : 0 ≤ (x3_1 : Int) := of_decide_eq_true (by first | (with_reducible assumption) | assumption)
            have q26 : (x3_1 : Int) < ((x0_1.length : Int) : Int) := of_decide_eq_true (by first | (with_reducible assumption) | assumption)
            obtain ⟨go26, co26, eo26, gb26, gl26, cl26, HG26⟩ := Kd.R_form HO_0.out (by omega)
            (first | cases eo26 | (injection eo26 with ea_ en_ ec_; (first | subst ea_ | (injection ea_ with ea_; subst ea_)); subst ec_; clear en_))
            have GB26 := Aq.mk gb26
            have GG26 := Aq.mk HG26
            clear gb26 gl26 HG26
            (first | simp only [add_plain] at hx187_0 | skip)
            (first | simp only [add_plain] at hx188_0 | skip)
            obtain ⟨hx26_0, hf26_0⟩ := Kd.R_celln 0 HO_0.out (x3_1 : Int) p26 q26
            replace p26 := eq_true p26
            replace q26 := eq_true q26
            have HP31 := Kd.R_putn HO_0.out (x3_1 : Int) (rd x0_1 (ji22))
            rw [← Ny189.out] at HP31
            have HQ31 := Aq.mk HP31
            clear HP31
            have p27 : 0 ≤ ((ji22) : Int) := of_decide_eq_true (by first | (with_reducible assumption) | assumption)
            have q27 : ((ji22) : Int) < ((x0_1.length : Int) : Int) := of_decide_eq_true (by first | (with_reducible assumption) | assumption)
            obtain ⟨hx27_0, hf27_0⟩ := Kd.R_celln 0 HQ31.out ((ji22) : Int) p27 q27
            replace p27 := eq_true p27
            replace q27 := eq_true q27
            have HP32 := Kd.R_putn HQ31.out ((ji22) : Int) (rd x0_1 x3_1)
            rw [← Ny190.out] at HP32
            have HQ32 := Aq.mk HP32
            clear HP32
            refine start_ (n := 20) (S := fun w' => w'.cell? ⟨go26, ((ji22)).toNat, none⟩ = some (.int .i64 (rd x0_1 (ji22))) ∧ w'.cell? ⟨go26, (x3_1).toNat, none⟩ = some (.int .i64 (rd x0_1 x3_1))) (ds := [17, 19]) #[false, false, false, false, false, false, false, false, false, false, false, false, false, false, false, false, false, false, false, false] (by kernel_rfl) rfl rfl ⟨hx187_0, hx188_0⟩ (fun hHeld => ?_); refine with_tabW qaf.tab8 qaf.bits8 (fun HT_ HW_ => ?_)
            generalize wc.drew = w30 at HO_0 BK177 HR184 HB GG26 HQ31 HQ32 hf26_0 hf27_0 hx187_0 hx188_0 hx26_0 hx27_0 hHeld ⊢
            refine qbv (i := 0) (N := some 26) (v := ?_) (a' := ?_) #[true, false, false, false, false, false, false, false, false, false, false, false, false, false, false, false, false, false, false, false] rfl rfl (qbp HT_.out (by kernel_rfl)) (fun _ _ _ h => h) (Or.inl ⟨by rfl, ?_⟩) ?_ ?_
            rotate_left
            ·intro w'
             go_simp
             with_reducible rfl
            rotate_left
            ·simp only [Act.put, qSa, qSb, qSc, qbl, qbn]
             rfl
            refine qbv (i := 1) (N := some 27) (v := ?_) (a' := ?_) #[true, true, false, false, false, false, false, false, false, false, false, false, false, false, false, false, false, false, false, false] rfl rfl (qbp HT_.out (by kernel_rfl)) (fun _ _ _ h => h) (Or.inl ⟨by rfl, ?_⟩) ?_ ?_
            rotate_left
            ·intro w'
             go_simp
             with_reducible rfl
            rotate_left
            ·simp only [Act.put, qSa, qSb, qSc, qbl, qbn]
             rfl
            refine qbv (i := 2) (N := some 28) (v := ?_) (a' := ?_) #[true, true, true, false, false, false, false, false, false, false, false, false, false, false, false, false, false, false, false, false] rfl rfl (qbp HT_.out (by kernel_rfl)) (fun _ _ _ h => h) (Or.inl ⟨by rfl, ?_⟩) ?_ ?_
            rotate_left
            ·intro w'
             go_simp
             with_reducible rfl
            rotate_left
            ·simp only [Act.put, qSa, qSb, qSc, qbl, qbn]
             rfl
            refine qbv (i := 3) (N := some 29) (v := ?_) (a' := ?_) #[true, true, true, true, false, false, false, false, false, false, false, false, false, false, false, false, false, false, false, false] rfl rfl (qbp HT_.out (by kernel_rfl)) (fun _ _ _ h => h) (Or.inl ⟨by rfl, ?_⟩) ?_ ?_
            rotate_left
            ·intro w'
             go_simp
             with_reducible rfl
            rotate_left
            ·simp only [Act.put, qSa, qSb, qSc, qbl, qbn]
             rfl
            refine qbv (i := 4) (N := some 30) (v := ?_) (a' := ?_) #[true, true, true, true, true, false, false, false, false, false, false, false, false, false, false, false, false, false, false, false] rfl rfl (qbp HT_.out (by kernel_rfl)) (fun _ _ _ h => h) (Or.inl ⟨by rfl, ?_⟩) ?_ ?_
            rotate_left
            ·intro w'
             go_simp
             with_reducible rfl
            rotate_left
            ·simp only [Act.put, qSa, qSb, qSc, qbl, qbn]
             rfl
            refine qbv (i := 5) (N := some 31) (v := ?_) (a' := ?_) #[true, true, true, true, true, true, false, false, false, false, false, false, false, false, false, false, false, false, false, false] rfl rfl (qbp HT_.out (by kernel_rfl)) (fun _ _ _ h => h) (Or.inl ⟨by rfl, ?_⟩) ?_ ?_
            rotate_left
            ·intro w'
             go_simp
             with_reducible rfl
            rotate_left
            ·simp only [Act.put, qSa, qSb, qSc, qbl, qbn]
             rfl
            refine qbv (i := 6) (N := some 32) (v := ?_) (a' := ?_) #[true, true, true, true, true, true, true, false, false, false, false, false, false, false, false, false, false, false, false, false] rfl rfl (qbp HT_.out (by kernel_rfl)) (fun _ _ _ h => h) (Or.inl ⟨by rfl, ?_⟩) ?_ ?_
            rotate_left
            ·intro w'
             go_simp
             with_reducible rfl
            rotate_left
            ·simp only [Act.put, qSa, qSb, qSc, qbl, qbn]
             rfl
            refine qbv (i := 7) (N := some 33) (v := ?_) (a' := ?_) #[true, true, true, true, true, true, true, true, false, false, false, false, false, false, false, false, false, false, false, false] rfl rfl (qbp HT_.out (by kernel_rfl)) (fun _ _ _ h => h) (Or.inl ⟨by rfl, ?_⟩) ?_ ?_
            rotate_left
            ·intro w'
             go_simp
             with_reducible rfl
            rotate_left
            ·simp only [Act.put, qSa, qSb, qSc, qbl, qbn]
             rfl
            refine qbv (i := 8) (N := some 34) (v := ?_) (a' := ?_) #[true, true, true, true, true, true, true, true, true, false, false, false, false, false, false, false, false, false, false, false] rfl rfl (qbp HT_.out (by kernel_rfl)) (fun _ _ _ h => h) (Or.inl ⟨by rfl, ?_⟩) ?_ ?_
            rotate_left
            ·intro w'
             go_simp
             with_reducible rfl
            rotate_left
            ·simp only [Act.put, qSa, qSb, qSc, qbl, qbn]
             rfl
            refine qbv (i := 9) (N := some 35) (v := ?_) (a' := ?_) #[true, true, true, true, true, true, true, true, true, true, false, false, false, false, false, false, false, false, false, false] rfl rfl (qbp HT_.out (by kernel_rfl)) (fun _ _ _ h => h) (Or.inl ⟨by rfl, ?_⟩) ?_ ?_
            rotate_left
            ·intro w'
             go_simp
             with_reducible rfl
            rotate_left
            ·simp only [Act.put, qSa, qSb, qSc, qbl, qbn]
             rfl
            refine qbv (i := 10) (N := some 36) (v := ?_) (a' := ?_) #[true, true, true, true, true, true, true, true, true, true, true, false, false, false, false, false, false, false, false, false] rfl rfl (qbp HT_.out (by kernel_rfl)) (fun _ _ _ h => h) (Or.inl ⟨by rfl, ?_⟩) ?_ ?_
            rotate_left
            ·intro w'
             go_simp
             with_reducible rfl
            rotate_left
            ·simp only [Act.put, qSa, qSb, qSc, qbl, qbn]
             rfl
            refine qbv (i := 12) (N := some 38) (v := ?_) (a' := ?_) #[true, true, true, true, true, true, true, true, true, true, true, false, true, false, false, false, false, false, false, false] rfl rfl (qbp HT_.out (by kernel_rfl)) (fun _ _ _ h => h) (Or.inl ⟨by rfl, ?_⟩) ?_ ?_
            rotate_left
            ·intro w'
             go_simp
             with_reducible rfl
            rotate_left
            ·simp only [Act.put, qSa, qSb, qSc, qbl, qbn]
             rfl
            refine qbv (i := 13) (N := some 39) (v := ?_) (a' := ?_) #[true, true, true, true, true, true, true, true, true, true, true, false, true, true, false, false, false, false, false, false] rfl rfl (qbp HT_.out (by kernel_rfl)) (fun _ _ _ h => h) (Or.inl ⟨by rfl, ?_⟩) ?_ ?_
            rotate_left
            ·intro w'
             go_simp
             with_reducible rfl
            rotate_left
            ·simp only [Act.put, qSa, qSb, qSc, qbl, qbn]
             rfl
            refine qbv (i := 14) (N := some 40) (v := ?_) (a' := ?_) #[true, true, true, true, true, true, true, true, true, true, true, false, true, true, true, false, false, false, false, false] rfl rfl (qbp HT_.out (by kernel_rfl)) (fun _ _ _ h => h) (Or.inl ⟨by rfl, ?_⟩) ?_ ?_
            rotate_left
            ·intro w'
             go_simp
             with_reducible rfl
            rotate_left
            ·simp only [Act.put, qSa, qSb, qSc, qbl, qbn]
             rfl
            refine take_ (i := 11) (N := some 37) (v := ?_) (a' := ?_) #[true, true, true, true, true, true, true, true, true, true, true, true, true, true, true, false, false, false, false, false] rfl rfl (qb1 HT_.out HW_.out (by kernel_rfl)) (fun _ _ _ h => h) (Or.inl ⟨by rfl, ?_⟩) hHeld ?_ ?_
            rotate_left
            ·rintro w' ⟨s0, s1⟩
             go_simp
             with_reducible rfl
            rotate_left
            ·simp only [Act.put, qSa, qSb, qSc, qbl, qbn]
             rfl
            refine take_ (i := 15) (N := some 41) (v := ?_) (a' := ?_) #[true, true, true, true, true, true, true, true, true, true, true, true, true, true, true, true, false, false, false, false] rfl rfl (qb1 HT_.out HW_.out (by kernel_rfl)) (fun _ _ _ h => h) (Or.inl ⟨by rfl, ?_⟩) hHeld ?_ ?_
            rotate_left
            ·rintro w' ⟨s0, s1⟩
             go_simp
             with_reducible rfl
            rotate_left
            ·simp only [Act.put, qSa, qSb, qSc, qbl, qbn]
             rfl
            refine qbv (i := 16) (N := some 42) (v := ?_) (a' := ?_) #[true, true, true, true, true, true, true, true, true, true, true, true, true, true, true, true, true, false, false, false] rfl rfl (qbp HT_.out (by kernel_rfl)) (fun _ _ _ h => h) (Or.inl ⟨by rfl, ?_⟩) ?_ ?_
            rotate_left
            ·intro w'
             go_simp
             with_reducible rfl
            rotate_left
            ·simp only [Act.put, qSa, qSb, qSc, qbl, qbn]
             rfl
            refine last_ (i := 17) (N := none) #[true, true, true, true, true, true, true, true, true, true, true, true, true, true, true, true, true, true, false, false] rfl rfl (qb2 HT_.out (by kernel_rfl)) (by decide) (fun K hK => ?_)
            refine skip_ (w1 := ?_) (by rfl) rfl ?_ ?_
            rotate_left
            ·go_simp
             rfl
            refine hK.out _ _ ?_
            clear hK K
            refine qbv (i := 18) (N := some 43) (v := ?_) (a' := ?_) #[true, true, true, true, true, true, true, true, true, true, true, true, true, true, true, true, true, true, true, false] rfl rfl (qbp HT_.out (by kernel_rfl)) (fun _ _ _ h => h) (Or.inl ⟨by rfl, ?_⟩) ?_ ?_
            rotate_left
            ·intro w'
             go_simp
             with_reducible rfl
            rotate_left
            ·simp only [Act.put, qSa, qSb, qSc, qbl, qbn]
             rfl
            refine last_ (i := 19) (N := none) #[true, true, true, true, true, true, true, true, true, true, true, true, true, true, true, true, true, true, true, true] rfl rfl (qb2 HT_.out (by kernel_rfl)) (by decide) (fun K hK => ?_)
            refine skip_ (w1 := ?_) (by rfl) rfl ?_ ?_
            rotate_left
            ·go_simp
             rfl
            refine hK.out _ _ ?_
            clear hK K
            refine done_ (done_of HT_.out (by kernel_rfl)) ?_
            try go_wp2
            go_loopg [46] kj5 (fun kq v46 w' => ∃ (x0_3 : List Int) (x46_3 : Int), v46 = .int .i64 x46_3 ∧ Aq (qaf.l1 kq x0_3 x3_1 (x0_1.length : Int) x46_3 x178000_1 = some r) ∧ Aq (kq ≤ kj5) ∧ Aq (Kd.R (Kd.int .i64) 2 w' w.heap.size (fun _ => True) (.slice (some ⟨go26, 0, none⟩) x0_1.length co29) x0_3) ∧ Aq (w'.heap[gm177]? = some (.cells #[.int .i64 x178000_1] 3 (0, 0))) ∧ Aq (Below w.heap.size w w'))
            case atStart => exact ⟨(y190), (0), (by first | rfl | (simp; done) | (simp [*]; done)), H', ⟨Nat.le_refl _⟩, ⟨by (with_reducible repeat (first | apply rA | apply rN | apply rD)); exact HQ32.out⟩, ⟨by (with_reducible repeat (first | refine kQN ?_ _ | refine kQD ?_ | refine kQA ?_ _)); refine kQR ?_ (by have h_ := Kd.R_ne HO_0.out BK177.out (by decide); intro e_; exact h_ (by rw [e_]; rfl)) _; (with_reducible repeat (first | refine kQN ?_ _ | refine kQD ?_ | refine kQA ?_ _)); refine kQR ?_ (by have h_ := Kd.R_ne HO_0.out BK177.out (by decide); intro e_; exact h_ (by rw [e_]; rfl)) _; (with_reducible repeat (first | refine kQN ?_ _ | refine kQD ?_ | refine kQA ?_ _)); exact BK177.out⟩, ⟨by repeat (first | (with_reducible first | exact HB.out | apply bQA | apply bQN | apply bQ1 | refine bQS ?_ GB26.out | refine bQS ?_ GB26.out | refine bQS ?_ GE177.out) | exact HB.out)⟩⟩
            case round =>
             clear H'
             try clear c1
             try clear p1
             try clear q1
             try clear hx1
             try clear c2
             try clear p2
             try clear q2
             try clear hx2
             try clear hf2
             try clear c6
             try clear p6
             try clear c7
             try clear c7b0
             try clear c10
             try clear c11
             try clear c12
             try clear c12b0
             try clear c12b1
             try clear c13
             try clear c13b0
             try clear c13b1
             try clear c15
             try clear c15b0
             try clear c16
             try clear q16
             try clear p18
             try clear q18
             try clear hx18
             try clear c20
             try clear c23
             try clear c23b0
             try clear c24
             try clear c24b0
             try clear c25
             try clear c25b0
             try clear p26
             try clear q26
             try clear hx26
             try clear hf26
             try clear p27
             try clear q27
             try clear hx27
             try clear hf27
             try clear c28
             try clear q28
             try clear hcz10_0
             try clear hcz18_0
             try clear hcz21_0
             try clear hcz5_0
             try clear hcz8_0
             try clear hfz10_0
             try clear hfz18_0
             try clear hfz21_0
             try clear hfz5_0
             try clear hfz8_0
             try clear hx187_0
             try clear hx188_0
             try clear hx26_0
             try clear hx27_0
             try clear p187
             try clear p188
             try clear p2
             try clear p26
             try clear p27
             try clear q016
             try clear q028
             try clear q16
             try clear q187
             try clear q188
             try clear q26
             try clear q27
             try clear q28
             obtain ⟨x0_3, x46_3, rfl, HA, HK3, HO_0, BK177, HB⟩ := hrel
             have hl0_3 := (Kd.qbi HO_0.out).1
             rw [hl0_3] at HO_0
             (try simp only [hl0_3])
             (try simp only [hl0_3] at BK177)
             cases gk with
             | zero => exact absurd HA.out (by simp [qaf.l1])
             | succ k3 =>
              have H := HA.out
              clear HA
              simp only [qaf.l1] at H
              by_cases c33 : x46_3 < (x0_1.length : Int)
              ·rw [if_pos c33] at H
               have c33b0 : decide (x46_3 < (x0_1.length : Int)) = true := decide_eq_true c33
               clear c33
               (try (have c33b0z := c33b0; simp only [hl0_3] at c33b0z))
               by_cases c34 : x46_3 = x3_1
               ·rw [if_pos c34] at H
                have c34b0 : (x46_3 == x3_1) = true := beq_iff_eq.mpr c34
                have c34b1 : (x46_3 != x3_1) = false := bne_eq_false_iff_eq.mpr c34
                clear c34
                (try (have c34b0z := c34b0; simp only [hl0_3] at c34b0z))
                (try (have c34b1z := c34b1; simp only [hl0_3] at c34b1z))
                have H' := Aq.mk H
                clear H
                try go_wp2
                replace HO_0 := Aq.mk (Kd.RqD HO_0.out)
                replace BK177 := Aq.mk (kQD BK177.out)
                replace HB := Aq.mk (bQ1 HB.out)
                refine start_ (n := 13) (S := fun w' => True) (ds := []) #[false, false, false, false, false, false, false, false, false, false, false, false, false] (by kernel_rfl) rfl rfl trivial (fun hHeld => ?_); refine with_tabW qaf.tab12 qaf.bits12 (fun HT_ HW_ => ?_)
                generalize wr.drew = w35 at HO_0 BK177 HB hHeld ⊢
                refine qbv (i := 0) (N := some 49) (v := ?_) (a' := ?_) #[true, false, false, false, false, false, false, false, false, false, false, false, false] rfl rfl (qbp HT_.out (by kernel_rfl)) (fun _ _ _ h => h) (Or.inl ⟨by rfl, ?_⟩) ?_ ?_
                rotate_left
                ·intro w'
                 go_simp
                 with_reducible rfl
                rotate_left
                ·simp only [Act.put, qSa, qSb, qSc, qbl, qbn]
                 rfl
                refine qbv (i := 1) (N := some 50) (v := ?_) (a' := ?_) #[true, true, false, false, false, false, false, false, false, false, false, false, false] rfl rfl (qbp HT_.out (by kernel_rfl)) (fun _ _ _ h => h) (Or.inl ⟨by rfl, ?_⟩) ?_ ?_
                rotate_left
                ·intro w'
                 go_simp
                 with_reducible rfl
                rotate_left
                ·simp only [Act.put, qSa, qSb, qSc, qbl, qbn]
                 rfl
                refine qbv (i := 2) (N := some 51) (v := ?_) (a' := ?_) #[true, true, true, false, false, false, false, false, false, false, false, false, false] rfl rfl (qbp HT_.out (by kernel_rfl)) (fun _ _ _ h => h) (Or.inl ⟨by rfl, ?_⟩) ?_ ?_
                rotate_left
                ·intro w'
                 go_simp
                 with_reducible rfl
                rotate_left
                ·simp only [Act.put, qSa, qSb, qSc, qbl, qbn]
                 rfl
                refine qbv (i := 3) (N := some 52) (v := ?_) (a' := ?_) #[true, true, true, true, false, false, false, false, false, false, false, false, false] rfl rfl (qbp HT_.out (by kernel_rfl)) (fun _ _ _ h => h) (Or.inl ⟨by rfl, ?_⟩) ?_ ?_
                rotate_left
                ·intro w'
                 go_simp
                 with_reducible rfl
                rotate_left
                ·simp only [Act.put, qSa, qSb, qSc, qbl, qbn]
                 rfl
                refine qbv (i := 4) (N := some 53) (v := undef) (a' := ?_) #[true, true, true, true, true, false, false, false, false, false, false, false, false] rfl rfl (qbp HT_.out (by kernel_rfl)) (fun _ _ _ h => h) (Or.inr ⟨by rfl, rfl⟩) ?_ ?_
                rotate_left
                ·simp only [Act.put, qSa, qSb, qSc, qbl, qbn]
                 rfl
                refine qbv (i := 5) (N := some 54) (v := undef) (a' := ?_) #[true, true, true, true, true, true, false, false, false, false, false, false, false] rfl rfl (qbp HT_.out (by kernel_rfl)) (fun _ _ _ h => h) (Or.inr ⟨by rfl, rfl⟩) ?_ ?_
                rotate_left
                ·simp only [Act.put, qSa, qSb, qSc, qbl, qbn]
                 rfl
                refine qbv (i := 6) (N := some 55) (v := undef) (a' := ?_) #[true, true, true, true, true, true, true, false, false, false, false, false, false] rfl rfl (qbp HT_.out (by kernel_rfl)) (fun _ _ _ h => h) (Or.inr ⟨by rfl, rfl⟩) ?_ ?_
                rotate_left
                ·simp only [Act.put, qSa, qSb, qSc, qbl, qbn]
                 rfl
                refine qbv (i := 7) (N := some 56) (v := undef) (a' := ?_) #[true, true, true, true, true, true, true, true, false, false, false, false, false] rfl rfl (qbp HT_.out (by kernel_rfl)) (fun _ _ _ h => h) (Or.inr ⟨by rfl, rfl⟩) ?_ ?_
                rotate_left
                ·simp only [Act.put, qSa, qSb, qSc, qbl, qbn]
                 rfl
                refine qbv (i := 8) (N := some 57) (v := undef) (a' := ?_) #[true, true, true, true, true, true, true, true, true, false, false, false, false] rfl rfl (qbp HT_.out (by kernel_rfl)) (fun _ _ _ h => h) (Or.inr ⟨by rfl, rfl⟩) ?_ ?_
                rotate_left
                ·simp only [Act.put, qSa, qSb, qSc, qbl, qbn]
                 rfl
                refine qbv (i := 9) (N := some 58) (v := undef) (a' := ?_) #[true, true, true, true, true, true, true, true, true, true, false, false, false] rfl rfl (qbp HT_.out (by kernel_rfl)) (fun _ _ _ h => h) (Or.inr ⟨by rfl, rfl⟩) ?_ ?_
                rotate_left
                ·simp only [Act.put, qSa, qSb, qSc, qbl, qbn]
                 rfl
                refine qbv (i := 10) (N := some 59) (v := undef) (a' := ?_) #[true, true, true, true, true, true, true, true, true, true, true, false, false] rfl rfl (qbp HT_.out (by kernel_rfl)) (fun _ _ _ h => h) (Or.inr ⟨by rfl, rfl⟩) ?_ ?_
                rotate_left
                ·simp only [Act.put, qSa, qSb, qSc, qbl, qbn]
                 rfl
                refine qbv (i := 11) (N := some 60) (v := undef) (a' := ?_) #[true, true, true, true, true, true, true, true, true, true, true, true, false] rfl rfl (qbp HT_.out (by kernel_rfl)) (fun _ _ _ h => h) (Or.inr ⟨by rfl, rfl⟩) ?_ ?_
                rotate_left
                ·simp only [Act.put, qSa, qSb, qSc, qbl, qbn]
                 rfl
                refine qbv (i := 12) (N := some 61) (v := ?_) (a' := ?_) #[true, true, true, true, true, true, true, true, true, true, true, true, true] rfl rfl (qbp HT_.out (by kernel_rfl)) (fun _ _ _ h => h) (Or.inl ⟨by rfl, ?_⟩) ?_ ?_
                rotate_left
                ·intro w'
                 go_simp
                 with_reducible rfl
                rotate_left
                ·simp only [Act.put, qSa, qSb, qSc, qbl, qbn]
                 rfl
                refine done_ (done_of HT_.out (by kernel_rfl)) ?_
                try go_wp2
                (try simp only [← hl0_3])
                go_roundg k3
                case measure => have := HK1.out; have := HJ5.out; have := HK3.out; omega
                case rel => exact ⟨(x0_3), (wrap64 (x46_3 + 1)), (by first | rfl | (simp; done) | (simp [*]; done)), H', ⟨by have := HK1.out; have := HJ5.out; have := HK3.out; omega⟩, ⟨by (try simp only [hl0_3]); (with_reducible repeat (first | apply rA | apply rN | apply rD)); exact HO_0.out⟩, ⟨by (try simp only [hl0_3]); (with_reducible repeat (first | refine kQN ?_ _ | refine kQD ?_ | refine kQA ?_ _)); exact BK177.out⟩, ⟨by repeat (first | (with_reducible first | exact HB.out | apply bQA | apply bQN | apply bQ1 | refine bQS ?_ GE177.out) | exact HB.out)⟩⟩
               ·rw [if_neg c34] at H
                have c34b0 : (x46_3 == x3_1) = false := beq_eq_false_iff_ne.mpr c34
                have c34b1 : (x46_3 != x3_1) = true := bne_iff_ne.mpr c34
                (try (have c34b0z := c34b0; simp only [hl0_3] at c34b0z))
                (try (have c34b1z := c34b1; simp only [hl0_3] at c34b1z))
                by_cases c36 : 0 ≤ x46_3
                ·rw [if_pos c36] at H
                 have c36b0 : decide (0 ≤ x46_3) = true := decide_eq_true c36
                 clear c36
                 (try (have c36b0z := c36b0; simp only [hl0_3] at c36b0z))
                 by_cases c37 : x46_3 < (x0_3.length : Int)
                 ·rw [if_pos c37] at H
                  have c37b0 : decide (x46_3 < (x0_3.length : Int)) = true := decide_eq_true c37
                  clear c37
                  (try (have c37b0z := c37b0; simp only [hl0_3] at c37b0z))
                  by_cases c38 : 0 ≤ x178000_1
                  ·rw [if_pos c38] at H
                   have c38b0 := eq_true c38
                   have c38b1 : decide (0 ≤ x178000_1) = true := decide_eq_true c38
                   clear c38
                   (try (have c38b0z := c38b0; simp only [hl0_3] at c38b0z))
                   (try (have c38b1z := c38b1; simp only [hl0_3] at c38b1z))
                   obtain ⟨ji39, hji39⟩ : ∃ j_ : Int, (shr .i64 (rd x0_3 x46_3) x178000_1) = j_ := ⟨_, rfl⟩
                   replace H : (if (Go.bits .and .i64 (ji39) 1) = 1 then (if 0 ≤ x3_1 then (if x3_1 < (x0_3.length : Int) then (qaf.l1 k3 (x0_3.set (x46_3 : Int).toNat (Go.bits .xor .i64 (rd x0_3 x46_3) (rd x0_3 x3_1))) x3_1 (x0_1.length : Int) (wrap64 (x46_3 + 1)) x178000_1) else (none)) else (none)) else (qaf.l1 k3 x0_3 x3_1 (x0_1.length : Int) (wrap64 (x46_3 + 1)) x178000_1)) = some r := by first | (rw [hji39] at H; exact H) | (simp only [hji39] at H ⊢; exact H)
                   have hji39_ : ((rd x0_3 x46_3) / 2 ^ min x178000_1.toNat 64) = ji39 := hji39
                   have hji39z : x178000_1 ≤ 64 → ((rd x0_3 x46_3) / 2 ^ x178000_1.toNat) = ji39 := shr_small hji39
                   by_cases c40 : (Go.bits .and .i64 (ji39) 1) = 1
                   ·rw [if_pos c40] at H
                    have c40b0 : ((Go.bits .and .i64 (ji39) 1) == 1) = true := beq_iff_eq.mpr c40
                    have c40b1 : ((Go.bits .and .i64 (ji39) 1) != 1) = false := bne_eq_false_iff_eq.mpr c40
                    clear c40
                    (try (have c40b0z := c40b0; simp only [hl0_3] at c40b0z))
                    (try (have c40b1z := c40b1; simp only [hl0_3] at c40b1z))
                    by_cases c41 : 0 ≤ x3_1
                    ·rw [if_pos c41] at H
                     have c41b0 : decide (0 ≤ x3_1) = true := decide_eq_true c41
                     clear c41
                     (try (have c41b0z := c41b0; simp only [hl0_3] at c41b0z))
                     by_cases c42 : x3_1 < (x0_3.length : Int)
                     ·rw [if_pos c42] at H
                      have c42b0 : decide (x3_1 < (x0_3.length : Int)) = true := decide_eq_true c42
                      clear c42
                      (try (have c42b0z := c42b0; simp only [hl0_3] at c42b0z))
                      obtain ⟨y194, hy194⟩ : ∃ y_ : List Int, y_ = (x0_3.set (x46_3 : Int).toNat (Go.bits .xor .i64 (rd x0_3 x46_3) (rd x0_3 x3_1))) := ⟨_, rfl⟩
                      replace H : (qaf.l1 k3 y194 x3_1 (x0_1.length : Int) (wrap64 (x46_3 + 1)) x178000_1) = some r := by first | (rw [hy194]; with_reducible exact H) | (have H2_ := (Option.bind_some _ _).symm.trans H; rw [hy194]; with_reducible exact H2_) | (have H2_ := (Option.bind_some _ _).symm.trans H; with_reducible exact H2_) | with_reducible exact H | (rw [hy194]; exact H) | exact H
                      have Ny194 := Aq.mk hy194
                      clear hy194
                      have H' := Aq.mk H
                      clear H
                      try go_wp2
                      replace HO_0 := Aq.mk (Kd.RqD HO_0.out)
                      replace BK177 := Aq.mk (kQD BK177.out)
                      replace HB := Aq.mk (bQ1 HB.out)
                      have p191 : 0 ≤ (x46_3 : Int) := of_decide_eq_true (by first | (with_reducible assumption) | assumption)
                      have q191 : x46_3 < (x0_3.length : Int) := of_decide_eq_true (by first | (with_reducible assumption) | assumption)
                      obtain ⟨ad191, e191, hx191_0⟩ := Kd.at_int (Kd.qbi HO_0.out).2.2 x46_3 p191 q191
                      obtain rfl : (⟨go26, 0, none⟩ : Addr) = ad191 := (by injection e191)
                      (first | simp only [add_plain] at hx191_0 | simp only [add_at] at hx191_0 | simp only [Addr.add, Nat.zero_add] at hx191_0 | skip)
                      replace p191 := eq_true p191
                      replace q191 := eq_true q191
                      refine start_ (n := 13) (S := fun w' => w'.cell? ⟨gm177, 0, none⟩ = some (.int .i64 x178000_1) ∧ w'.cell? ⟨go26, (x46_3).toNat, none⟩ = some (.int .i64 (rd x0_3 x46_3))) (ds := []) #[false, false, false, false, false, false, false, false, false, false, false, false, false] (by kernel_rfl) rfl rfl ⟨(kQC BK177.out 0).trans rfl, hx191_0⟩ (fun hHeld => ?_); refine with_tabW qaf.tab12 qaf.bits12 (fun HT_ HW_ => ?_)
                      generalize wr.drew = w44 at HO_0 BK177 HB hx191_0 hHeld ⊢
                      refine qbv (i := 0) (N := some 49) (v := ?_) (a' := ?_) #[true, false, false, false, false, false, false, false, false, false, false, false, false] rfl rfl (qbp HT_.out (by kernel_rfl)) (fun _ _ _ h => h) (Or.inl ⟨by rfl, ?_⟩) ?_ ?_
                      rotate_left
                      ·intro w'
                       go_simp
                       with_reducible rfl
                      rotate_left
                      ·simp only [Act.put, qSa, qSb, qSc, qbl, qbn]
                       rfl
                      refine qbv (i := 1) (N := some 50) (v := ?_) (a' := ?_) #[true, true, false, false, false, false, false, false, false, false, false, false, false] rfl rfl (qbp HT_.out (by kernel_rfl)) (fun _ _ _ h => h) (Or.inl ⟨by rfl, ?_⟩) ?_ ?_
                      rotate_left
                      ·intro w'
                       go_simp
                       with_reducible rfl
                      rotate_left
                      ·simp only [Act.put, qSa, qSb, qSc, qbl, qbn]
                       rfl
                      refine qbv (i := 2) (N := some 51) (v := ?_) (a' := ?_) #[true, true, true, false, false, false, false, false, false, false, false, false, false] rfl rfl (qbp HT_.out (by kernel_rfl)) (fun _ _ _ h => h) (Or.inl ⟨by rfl, ?_⟩) ?_ ?_
                      rotate_left
                      ·intro w'
                       go_simp
                       with_reducible rfl
                      rotate_left
                      ·simp only [Act.put, qSa, qSb, qSc, qbl, qbn]
                       rfl
                      refine qbv (i := 3) (N := some 52) (v := ?_) (a' := ?_) #[true, true, true, true, false, false, false, false, false, false, false, false, false] rfl rfl (qbp HT_.out (by kernel_rfl)) (fun _ _ _ h => h) (Or.inl ⟨by rfl, ?_⟩) ?_ ?_
                      rotate_left
                      ·intro w'
                       go_simp
                       with_reducible rfl
                      rotate_left
                      ·simp only [Act.put, qSa, qSb, qSc, qbl, qbn]
                       rfl
                      refine qbv (i := 4) (N := some 53) (v := ?_) (a' := ?_) #[true, true, true, true, true, false, false, false, false, false, false, false, false] rfl rfl (qbp HT_.out (by kernel_rfl)) (fun _ _ _ h => h) (Or.inl ⟨by rfl, ?_⟩) ?_ ?_
                      rotate_left
                      ·intro w'
                       go_simp
                       with_reducible rfl
                      rotate_left
                      ·simp only [Act.put, qSa, qSb, qSc, qbl, qbn]
                       rfl
                      refine qbv (i := 5) (N := some 54) (v := ?_) (a' := ?_) #[true, true, true, true, true, true, false, false, false, false, false, false, false] rfl rfl (qbp HT_.out (by kernel_rfl)) (fun _ _ _ h => h) (Or.inl ⟨by rfl, ?_⟩) ?_ ?_
                      rotate_left
                      ·intro w'
                       go_simp
                       with_reducible rfl
                      rotate_left
                      ·simp only [Act.put, qSa, qSb, qSc, qbl, qbn]
                       rfl
                      refine qbv (i := 6) (N := some 55) (v := ?_) (a' := ?_) #[true, true, true, true, true, true, true, false, false, false, false, false, false] rfl rfl (qbp HT_.out (by kernel_rfl)) (fun _ _ _ h => h) (Or.inl ⟨by rfl, ?_⟩) ?_ ?_
                      rotate_left
                      ·intro w'
                       go_simp
                       with_reducible rfl
                      rotate_left
                      ·simp only [Act.put, qSa, qSb, qSc, qbl, qbn]
                       rfl
                      refine take_ (i := 7) (N := some 56) (v := ?_) (a' := ?_) #[true, true, true, true, true, true, true, true, false, false, false, false, false] rfl rfl (qb1 HT_.out HW_.out (by kernel_rfl)) (fun _ _ _ h => h) (Or.inl ⟨by rfl, ?_⟩) hHeld ?_ ?_
                      rotate_left
                      ·rintro w' ⟨s0, s1⟩
                       go_simp
                       with_reducible rfl
                      rotate_left
                      ·simp only [Act.put, qSa, qSb, qSc, qbl, qbn]
                       rfl
                      refine take_ (i := 8) (N := some 57) (v := ?_) (a' := ?_) #[true, true, true, true, true, true, true, true, true, false, false, false, false] rfl rfl (qb1 HT_.out HW_.out (by kernel_rfl)) (fun _ _ _ h => h) (Or.inl ⟨by rfl, ?_⟩) hHeld ?_ ?_
                      rotate_left
                      ·rintro w' ⟨s0, s1⟩
                       go_simp
                       with_reducible rfl
                      rotate_left
                      ·simp only [Act.put, qSa, qSb, qSc, qbl, qbn]
                       rfl
                      refine qbv (i := 9) (N := some 58) (v := ?_) (a' := ?_) #[true, true, true, true, true, true, true, true, true, true, false, false, false] rfl rfl (qbp HT_.out (by kernel_rfl)) (fun _ _ _ h => h) (Or.inl ⟨by rfl, ?_⟩) ?_ ?_
                      rotate_left
                      ·intro w'
                       go_simp
                       with_reducible rfl
                      rotate_left
                      ·simp only [Act.put, qSa, qSb, qSc, qbl, qbn]
                       rfl
                      refine qbv (i := 10) (N := some 59) (v := ?_) (a' := ?_) #[true, true, true, true, true, true, true, true, true, true, true, false, false] rfl rfl (qbp HT_.out (by kernel_rfl)) (fun _ _ _ h => h) (Or.inl ⟨by rfl, ?_⟩) ?_ ?_
                      rotate_left
                      ·intro w'
                       go_simp
                       with_reducible rfl
                      rotate_left
                      ·simp only [Act.put, qSa, qSb, qSc, qbl, qbn]
                       rfl
                      refine qbv (i := 11) (N := some 60) (v := ?_) (a' := ?_) #[true, true, true, true, true, true, true, true, true, true, true, true, false] rfl rfl (qbp HT_.out (by kernel_rfl)) (fun _ _ _ h => h) (Or.inl ⟨by rfl, ?_⟩) ?_ ?_
                      rotate_left
                      ·intro w'
                       go_simp
                       with_reducible rfl
                      rotate_left
                      ·simp only [Act.put, qSa, qSb, qSc, qbl, qbn]
                       rfl
                      refine qbv (i := 12) (N := some 61) (v := ?_) (a' := ?_) #[true, true, true, true, true, true, true, true, true, true, true, true, true] rfl rfl (qbp HT_.out (by kernel_rfl)) (fun _ _ _ h => h) (Or.inl ⟨by rfl, ?_⟩) ?_ ?_
                      rotate_left
                      ·intro w'
                       go_simp
                       with_reducible rfl
                      rotate_left
                      ·simp only [Act.put, qSa, qSb, qSc, qbl, qbn]
                       rfl
                      refine done_ (done_of HT_.out (by kernel_rfl)) ?_
                      try go_wp2
                      replace HO_0 := Aq.mk (Kd.RqD HO_0.out)
                      replace BK177 := Aq.mk (kQD BK177.out)
                      replace HB := Aq.mk (bQ1 HB.out)
                      have p192 : 0 ≤ (x46_3 : Int) := of_decide_eq_true (by first | (with_reducible assumption) | assumption)
                      have q192 : x46_3 < (x0_3.length : Int) := of_decide_eq_true (by first | (with_reducible assumption) | assumption)
                      obtain ⟨ad192, e192, hx192_0⟩ := Kd.at_int (Kd.qbi HO_0.out).2.2 x46_3 p192 q192
                      obtain rfl : (⟨go26, 0, none⟩ : Addr) = ad192 := (by injection e192)
                      (first | simp only [add_plain] at hx192_0 | simp only [add_at] at hx192_0 | simp only [Addr.add, Nat.zero_add] at hx192_0 | skip)
                      replace p192 := eq_true p192
                      replace q192 := eq_true q192
                      have p193 : 0 ≤ (x3_1 : Int) := of_decide_eq_true (by first | (with_reducible assumption) | assumption)
                      have q193 : x3_1 < (x0_3.length : Int) := of_decide_eq_true (by first | (with_reducible assumption) | assumption)
                      obtain ⟨ad193, e193, hx193_0⟩ := Kd.at_int (Kd.qbi HO_0.out).2.2 x3_1 p193 q193
                      obtain rfl : (⟨go26, 0, none⟩ : Addr) = ad193 := (by injection e193)
                      (first | simp only [add_plain] at hx193_0 | simp only [add_at] at hx193_0 | simp only [Addr.add, Nat.zero_add] at hx193_0 | skip)
                      replace p193 := eq_true p193
                      replace q193 := eq_true q193
                      have p43 : 0 ≤ (x46_3 : Int) := of_decide_eq_true (by first | (with_reducible assumption) | assumption)
                      have q43 : (x46_3 : Int) < ((x0_3.length : Int) : Int) := of_decide_eq_true (by first | (with_reducible assumption) | assumption)
                      obtain ⟨hx43_0, hf43_0⟩ := Kd.R_celln 0 HO_0.out (x46_3 : Int) p43 q43
                      replace p43 := eq_true p43
                      replace q43 := eq_true q43
                      have HP46 := Kd.R_putn HO_0.out (x46_3 : Int) (Go.bits .xor .i64 (rd x0_3 x46_3) (rd x0_3 x3_1))
                      rw [← Ny194.out] at HP46
                      have HQ46 := Aq.mk HP46
                      clear HP46
                      refine start_ (n := 11) (S := fun w' => w'.cell? ⟨go26, (x46_3).toNat, none⟩ = some (.int .i64 (rd x0_3 x46_3)) ∧ w'.cell? ⟨go26, (x3_1).toNat, none⟩ = some (.int .i64 (rd x0_3 x3_1))) (ds := [10]) #[false, false, false, false, false, false, false, false, false, false, false] (by kernel_rfl) rfl rfl ⟨hx192_0, hx193_0⟩ (fun hHeld => ?_); refine with_tabW qaf.tab13 qaf.bits13 (fun HT_ HW_ => ?_)
                      generalize w44.drew = w45 at HO_0 BK177 HB HQ46 hf43_0 hx192_0 hx193_0 hx43_0 hHeld ⊢
                      refine qbv (i := 0) (N := some 62) (v := ?_) (a' := ?_) #[true, false, false, false, false, false, false, false, false, false, false] rfl rfl (qbp HT_.out (by kernel_rfl)) (fun _ _ _ h => h) (Or.inl ⟨by rfl, ?_⟩) ?_ ?_
                      rotate_left
                      ·intro w'
                       go_simp
                       with_reducible rfl
                      rotate_left
                      ·simp only [Act.put, qSa, qSb, qSc, qbl, qbn]
                       rfl
                      refine qbv (i := 1) (N := some 63) (v := ?_) (a' := ?_) #[true, true, false, false, false, false, false, false, false, false, false] rfl rfl (qbp HT_.out (by kernel_rfl)) (fun _ _ _ h => h) (Or.inl ⟨by rfl, ?_⟩) ?_ ?_
                      rotate_left
                      ·intro w'
                       go_simp
                       with_reducible rfl
                      rotate_left
                      ·simp only [Act.put, qSa, qSb, qSc, qbl, qbn]
                       rfl
                      refine qbv (i := 2) (N := some 64) (v := ?_) (a' := ?_) #[true, true, true, false, false, false, false, false, false, false, false] rfl rfl (qbp HT_.out (by kernel_rfl)) (fun _ _ _ h => h) (Or.inl ⟨by rfl, ?_⟩) ?_ ?_
                      rotate_left
                      ·intro w'
                       go_simp
                       with_reducible rfl
                      rotate_left
                      ·simp only [Act.put, qSa, qSb, qSc, qbl, qbn]
                       rfl
                      refine qbv (i := 4) (N := some 66) (v := ?_) (a' := ?_) #[true, true, true, false, true, false, false, false, false, false, false] rfl rfl (qbp HT_.out (by kernel_rfl)) (fun _ _ _ h => h) (Or.inl ⟨by rfl, ?_⟩) ?_ ?_
                      rotate_left
                      ·intro w'
                       go_simp
                       with_reducible rfl
                      rotate_left
                      ·simp only [Act.put, qSa, qSb, qSc, qbl, qbn]
                       rfl
                      refine qbv (i := 5) (N := some 67) (v := ?_) (a' := ?_) #[true, true, true, false, true, true, false, false, false, false, false] rfl rfl (qbp HT_.out (by kernel_rfl)) (fun _ _ _ h => h) (Or.inl ⟨by rfl, ?_⟩) ?_ ?_
                      rotate_left
                      ·intro w'
                       go_simp
                       with_reducible rfl
                      rotate_left
                      ·simp only [Act.put, qSa, qSb, qSc, qbl, qbn]
                       rfl
                      refine qbv (i := 6) (N := some 68) (v := ?_) (a' := ?_) #[true, true, true, false, true, true, true, false, false, false, false] rfl rfl (qbp HT_.out (by kernel_rfl)) (fun _ _ _ h => h) (Or.inl ⟨by rfl, ?_⟩) ?_ ?_
                      rotate_left
                      ·intro w'
                       go_simp
                       with_reducible rfl
                      rotate_left
                      ·simp only [Act.put, qSa, qSb, qSc, qbl, qbn]
                       rfl
                      refine take_ (i := 3) (N := some 65) (v := ?_) (a' := ?_) #[true, true, true, true, true, true, true, false, false, false, false] rfl rfl (qb1 HT_.out HW_.out (by kernel_rfl)) (fun _ _ _ h => h) (Or.inl ⟨by rfl, ?_⟩) hHeld ?_ ?_
                      rotate_left
                      ·rintro w' ⟨s0, s1⟩
                       go_simp
                       with_reducible rfl
                      rotate_left
                      ·simp only [Act.put, qSa, qSb, qSc, qbl, qbn]
                       rfl
                      refine take_ (i := 7) (N := some 69) (v := ?_) (a' := ?_) #[true, true, true, true, true, true, true, true, false, false, false] rfl rfl (qb1 HT_.out HW_.out (by kernel_rfl)) (fun _ _ _ h => h) (Or.inl ⟨by rfl, ?_⟩) hHeld ?_ ?_
                      rotate_left
                      ·rintro w' ⟨s0, s1⟩
                       go_simp
                       with_reducible rfl
                      rotate_left
                      ·simp only [Act.put, qSa, qSb, qSc, qbl, qbn]
                       rfl
                      refine qbv (i := 8) (N := some 70) (v := ?_) (a' := ?_) #[true, true, true, true, true, true, true, true, true, false, false] rfl rfl (qbp HT_.out (by kernel_rfl)) (fun _ _ _ h => h) (Or.inl ⟨by rfl, ?_⟩) ?_ ?_
                      rotate_left
                      ·intro w'
                       go_simp
                       with_reducible rfl
                      rotate_left
                      ·simp only [Act.put, qSa, qSb, qSc, qbl, qbn]
                       rfl
                      refine qbv (i := 9) (N := some 71) (v := ?_) (a' := ?_) #[true, true, true, true, true, true, true, true, true, true, false] rfl rfl (qbp HT_.out (by kernel_rfl)) (fun _ _ _ h => h) (Or.inl ⟨by rfl, ?_⟩) ?_ ?_
                      rotate_left
                      ·intro w'
                       go_simp
                       with_reducible rfl
                      rotate_left
                      ·simp only [Act.put, qSa, qSb, qSc, qbl, qbn]
                       rfl
                      refine last_ (i := 10) (N := none) #[true, true, true, true, true, true, true, true, true, true, true] rfl rfl (qb2 HT_.out (by kernel_rfl)) (by decide) (fun K hK => ?_)
                      refine skip_ (w1 := ?_) (by rfl) rfl ?_ ?_
                      rotate_left
                      ·go_simp
                       rfl
                      refine hK.out _ _ ?_
                      clear hK K
                      refine done_ (done_of HT_.out (by kernel_rfl)) ?_
                      try go_wp2
                      (try simp only [← hl0_3])
                      go_roundg k3
                      case measure => have := HK1.out; have := HJ5.out; have := HK3.out; omega
                      case rel => exact ⟨(y194), (wrap64 (x46_3 + 1)), (by first | rfl | (simp; done) | (simp [*]; done)), H', ⟨by have := HK1.out; have := HJ5.out; have := HK3.out; omega⟩, ⟨by (try simp only [hl0_3]); (with_reducible repeat (first | apply rA | apply rN | apply rD)); exact HQ46.out⟩, ⟨by (try simp only [hl0_3]); (with_reducible repeat (first | refine kQN ?_ _ | refine kQD ?_ | refine kQA ?_ _)); refine kQR ?_ (by have h_ := Kd.R_ne HO_0.out BK177.out (by decide); intro e_; exact h_ (by rw [e_]; rfl)) _; (with_reducible repeat (first | refine kQN ?_ _ | refine kQD ?_ | refine kQA ?_ _)); exact BK177.out⟩, ⟨by repeat (first | (with_reducible first | exact HB.out | apply bQA | apply bQN | apply bQ1 | refine bQS ?_ GB26.out | refine bQS ?_ GE177.out) | exact HB.out)⟩⟩
                     ·rw [if_neg c42] at H
                      exact absurd H (by simp)
                    ·rw [if_neg c41] at H
                     exact absurd H (by simp)
                   ·rw [if_neg c40] at H
                    have c40b0 : ((Go.bits .and .i64 (ji39) 1) == 1) = false := beq_eq_false_iff_ne.mpr c40
                    have c40b1 : ((Go.bits .and .i64 (ji39) 1) != 1) = true := bne_iff_ne.mpr c40
                    (try (have c40b0z := c40b0; simp only [hl0_3] at c40b0z))
                    (try (have c40b1z := c40b1; simp only [hl0_3] at c40b1z))
                    have H' := Aq.mk H
                    clear H
                    try go_wp2
                    replace HO_0 := Aq.mk (Kd.RqD HO_0.out)
                    replace BK177 := Aq.mk (kQD BK177.out)
                    replace HB := Aq.mk (bQ1 HB.out)
                    have p191 : 0 ≤ (x46_3 : Int) := of_decide_eq_true (by first | (with_reducible assumption) | assumption)
                    have q191 : x46_3 < (x0_3.length : Int) := of_decide_eq_true (by first | (with_reducible assumption) | assumption)
                    obtain ⟨ad191, e191, hx191_0⟩ := Kd.at_int (Kd.qbi HO_0.out).2.2 x46_3 p191 q191
                    obtain rfl : (⟨go26, 0, none⟩ : Addr) = ad191 := (by injection e191)
                    (first | simp only [add_plain] at hx191_0 | simp only [add_at] at hx191_0 | simp only [Addr.add, Nat.zero_add] at hx191_0 | skip)
                    replace p191 := eq_true p191
                    replace q191 := eq_true q191
                    refine start_ (n := 13) (S := fun w' => w'.cell? ⟨gm177, 0, none⟩ = some (.int .i64 x178000_1) ∧ w'.cell? ⟨go26, (x46_3).toNat, none⟩ = some (.int .i64 (rd x0_3 x46_3))) (ds := []) #[false, false, false, false, false, false, false, false, false, false, false, false, false] (by kernel_rfl) rfl rfl ⟨(kQC BK177.out 0).trans rfl, hx191_0⟩ (fun hHeld => ?_); refine with_tabW qaf.tab12 qaf.bits12 (fun HT_ HW_ => ?_)
                    generalize wr.drew = w47 at HO_0 BK177 HB hx191_0 hHeld ⊢
                    refine qbv (i := 0) (N := some 49) (v := ?_) (a' := ?_) #[true, false, false, false, false, false, false, false, false, false, false, false, false] rfl rfl (qbp HT_.out (by kernel_rfl)) (fun _ _ _ h => h) (Or.inl ⟨by rfl, ?_⟩) ?_ ?_
                    rotate_left
                    ·intro w'
                     go_simp
                     with_reducible rfl
                    rotate_left
                    ·simp only [Act.put, qSa, qSb, qSc, qbl, qbn]
                     rfl
                    refine qbv (i := 1) (N := some 50) (v := ?_) (a' := ?_) #[true, true, false, false, false, false, false, false, false, false, false, false, false] rfl rfl (qbp HT_.out (by kernel_rfl)) (fun _ _ _ h => h) (Or.inl ⟨by rfl, ?_⟩) ?_ ?_
                    rotate_left
                    ·intro w'
                     go_simp
                     with_reducible rfl
                    rotate_left
                    ·simp only [Act.put, qSa, qSb, qSc, qbl, qbn]
                     rfl
                    refine qbv (i := 2) (N := some 51) (v := ?_) (a' := ?_) #[true, true, true, false, false, false, false, false, false, false, false, false, false] rfl rfl (qbp HT_.out (by kernel_rfl)) (fun _ _ _ h => h) (Or.inl ⟨by rfl, ?_⟩) ?_ ?_
                    rotate_left
                    ·intro w'
                     go_simp
                     with_reducible rfl
                    rotate_left
                    ·simp only [Act.put, qSa, qSb, qSc, qbl, qbn]
                     rfl
                    refine qbv (i := 3) (N := some 52) (v := ?_) (a' := ?_) #[true, true, true, true, false, false, false, false, false, false, false, false, false] rfl rfl (qbp HT_.out (by kernel_rfl)) (fun _ _ _ h => h) (Or.inl ⟨by rfl, ?_⟩) ?_ ?_
                    rotate_left
                    ·intro w'
                     go_simp
                     with_reducible rfl
                    rotate_left
                    ·simp only [Act.put, qSa, qSb, qSc, qbl, qbn]
                     rfl
                    refine qbv (i := 4) (N := some 53) (v := ?_) (a' := ?_) #[true, true, true, true, true, false, false, false, false, false, false, false, false] rfl rfl (qbp HT_.out (by kernel_rfl)) (fun _ _ _ h => h) (Or.inl ⟨by rfl, ?_⟩) ?_ ?_
                    rotate_left
                    ·intro w'
                     go_simp
                     with_reducible rfl
                    rotate_left
                    ·simp only [Act.put, qSa, qSb, qSc, qbl, qbn]
                     rfl
                    refine qbv (i := 5) (N := some 54) (v := ?_) (a' := ?_) #[true, true, true, true, true, true, false, false, false, false, false, false, false] rfl rfl (qbp HT_.out (by kernel_rfl)) (fun _ _ _ h => h) (Or.inl ⟨by rfl, ?_⟩) ?_ ?_
                    rotate_left
                    ·intro w'
                     go_simp
                     with_reducible rfl
                    rotate_left
                    ·simp only [Act.put, qSa, qSb, qSc, qbl, qbn]
                     rfl
                    refine qbv (i := 6) (N := some 55) (v := ?_) (a' := ?_) #[true, true, true, true, true, true, true, false, false, false, false, false, false] rfl rfl (qbp HT_.out (by kernel_rfl)) (fun _ _ _ h => h) (Or.inl ⟨by rfl, ?_⟩) ?_ ?_
                    rotate_left
                    ·intro w'
                     go_simp
                     with_reducible rfl
                    rotate_left
                    ·simp only [Act.put, qSa, qSb, qSc, qbl, qbn]
                     rfl
                    refine take_ (i := 7) (N := some 56) (v := ?_) (a' := ?_) #[true, true, true, true, true, true, true, true, false, false, false, false, false] rfl rfl (qb1 HT_.out HW_.out (by kernel_rfl)) (fun _ _ _ h => h) (Or.inl ⟨by rfl, ?_⟩) hHeld ?_ ?_
                    rotate_left
                    ·rintro w' ⟨s0, s1⟩
                     go_simp
                     with_reducible rfl
                    rotate_left
                    ·simp only [Act.put, qSa, qSb, qSc, qbl, qbn]
                     rfl
                    refine take_ (i := 8) (N := some 57) (v := ?_) (a' := ?_) #[true, true, true, true, true, true, true, true, true, false, false, false, false] rfl rfl (qb1 HT_.out HW_.out (by kernel_rfl)) (fun _ _ _ h => h) (Or.inl ⟨by rfl, ?_⟩) hHeld ?_ ?_
                    rotate_left
                    ·rintro w' ⟨s0, s1⟩
                     go_simp
                     with_reducible rfl
                    rotate_left
                    ·simp only [Act.put, qSa, qSb, qSc, qbl, qbn]
                     rfl
                    refine qbv (i := 9) (N := some 58) (v := ?_) (a' := ?_) #[true, true, true, true, true, true, true, true, true, true, false, false, false] rfl rfl (qbp HT_.out (by kernel_rfl)) (fun _ _ _ h => h) (Or.inl ⟨by rfl, ?_⟩) ?_ ?_
                    rotate_left
                    ·intro w'
                     go_simp
                     with_reducible rfl
                    rotate_left
                    ·simp only [Act.put, qSa, qSb, qSc, qbl, qbn]
                     rfl
                    refine qbv (i := 10) (N := some 59) (v := ?_) (a' := ?_) #[true, true, true, true, true, true, true, true, true, true, true, false, false] rfl rfl (qbp HT_.out (by kernel_rfl)) (fun _ _ _ h => h) (Or.inl ⟨by rfl, ?_⟩) ?_ ?_
                    rotate_left
                    ·intro w'
                     go_simp
                     with_reducible rfl
                    rotate_left
                    ·simp only [Act.put, qSa, qSb, qSc, qbl, qbn]
                     rfl
                    refine qbv (i := 11) (N := some 60) (v := ?_) (a' := ?_) #[true, true, true, true, true, true, true, true, true, true, true, true, false] rfl rfl (qbp HT_.out (by kernel_rfl)) (fun _ _ _ h => h) (Or.inl ⟨by rfl, ?_⟩) ?_ ?_
                    rotate_left
                    ·intro w'
                     go_simp
                     with_reducible rfl
                    rotate_left
                    ·simp only [Act.put, qSa, qSb, qSc, qbl, qbn]
                     rfl
                    refine qbv (i := 12) (N := some 61) (v := ?_) (a' := ?_) #[true, true, true, true, true, true, true, true, true, true, true, true, true] rfl rfl (qbp HT_.out (by kernel_rfl)) (fun _ _ _ h => h) (Or.inl ⟨by rfl, ?_⟩) ?_ ?_
                    rotate_left
                    ·intro w'
                     go_simp
                     with_reducible rfl
                    rotate_left
                    ·simp only [Act.put, qSa, qSb, qSc, qbl, qbn]
                     rfl
                    refine done_ (done_of HT_.out (by kernel_rfl)) ?_
                    try go_wp2
                    (try simp only [← hl0_3])
                    go_roundg k3
                    case measure => have := HK1.out; have := HJ5.out; have := HK3.out; omega
                    case rel => exact ⟨(x0_3), (wrap64 (x46_3 + 1)), (by first | rfl | (simp; done) | (simp [*]; done)), H', ⟨by have := HK1.out; have := HJ5.out; have := HK3.out; omega⟩, ⟨by (try simp only [hl0_3]); (with_reducible repeat (first | apply rA | apply rN | apply rD)); exact HO_0.out⟩, ⟨by (try simp only [hl0_3]); (with_reducible repeat (first | refine kQN ?_ _ | refine kQD ?_ | refine kQA ?_ _)); exact BK177.out⟩, ⟨by repeat (first | (with_reducible first | exact HB.out | apply bQA | apply bQN | apply bQ1 | refine bQS ?_ GE177.out) | exact HB.out)⟩⟩
                  ·rw [if_neg c38] at H
                   exact absurd H (by simp)
                 ·rw [if_neg c37] at H
                  exact absurd H (by simp)
                ·rw [if_neg c36] at H
                 exact absurd H (by simp)
              ·rw [if_neg c33] at H
               have c33b0 : decide (x46_3 < (x0_1.length : Int)) = false := decide_eq_false c33
               clear c33
               (try (have c33b0z := c33b0; simp only [hl0_3] at c33b0z))
               have H' := Aq.mk H
               clear H
               have hcz48_0 : wr.cell? ⟨gm177, 0, none⟩ = some (.int .i64 x178000_1) := (kQC BK177.out 0).trans rfl
               have hfz48_0 := kQF BK177.out 0
               go_wp2_with (first | ((with_reducible refine gQd (N := 4) rfl ?_); (try (refine gate_guard (by rfl) ?_; dsimp only)); refine xQe ?hg (N := 4) ?hd (cs := #[.int .i64 0]) (t := 3) ?hr ?_; (case hd => rfl); (case hg => rfl); (case hr => first | (go_simp; done) | (go_simp; rfl)); intro gb195 hg w49 hbox hb; replace HO_0 := Aq.mk (Kd.qbk (by (with_reducible repeat (first | apply rA | apply rN | apply rD)); exact HO_0.out) hb); have BK195 := Aq.mk (hbox); have GW195 := Aq.mk ((by rw [hg]; exact (bQZ (by repeat (with_reducible first | exact HB.out | apply bQA | apply bQN | apply bQ1 | refine bQS ?_ GE177.out))) : w.heap.size ≤ gb195)); have GE195 := Aq.mk ((by rw [hg]; exact (bQZ (by repeat (with_reducible first | exact HB.out | apply bQA | apply bQN | apply bQ1 | refine bQS ?_ GE177.out))) : w.heap.size ≤ gb195)); replace HB := Aq.mk (bQT (by repeat (with_reducible first | exact HB.out | apply bQA | apply bQN | apply bQ1 | refine bQS ?_ GE177.out)) hb); have NB177_195 := Aq.mk ((by rw [hg]; exact Nat.ne_of_lt (qbo (g := gm177) (o := .cells #[.int .i64 x178000_1] 3 (0, 0)) (by (with_reducible repeat (first | refine kQN ?_ _ | refine kQD ?_ | refine kQA ?_ _)); exact BK177.out)) : gm177 ≠ gb195)); have NB195_177 := Aq.mk ((by rw [hg]; exact Nat.ne_of_gt (qbo (g := gm177) (o := .cells #[.int .i64 x178000_1] 3 (0, 0)) (by (with_reducible repeat (first | refine kQN ?_ _ | refine kQD ?_ | refine kQA ?_ _)); exact BK177.out)) : gb195 ≠ gm177)); replace BK177 := Aq.mk (kQB (g := gm177) (o := .cells #[.int .i64 x178000_1] 3 (0, 0)) (by (with_reducible repeat (first | refine kQN ?_ _ | refine kQD ?_ | refine kQA ?_ _)); exact BK177.out) hb); clear hb hbox hg; have hnb50 := NB195_177.out; have hnc50 := NB177_195.out; have hcz51_0 : w49.cell? ⟨gb195, 0, none⟩ = some (.int .i64 0) := (kQC BK195.out 0).trans rfl; have hfz51_0 := kQF BK195.out 0))
               (try simp only [← hl0_3])
               go_roundg k3
               case measure => have := HK1.out; have := HJ5.out; have := HK3.out; omega
               case rel => exact ⟨(gb195), (x0_3), (wrap64 (x3_1 + 1)), (wrap64 (x178000_1 + 1)), rfl, GW195, GE195, (by first | rfl | (simp; done) | (simp [*]; done)), H', ⟨by have := HK1.out; have := HJ5.out; have := HK3.out; omega⟩, ⟨by (try simp only [hl0_3]); (with_reducible repeat (first | apply rA | apply rN | apply rD)); exact Kd.qbj (Kd.qbs (p := ⟨gb195, 0, none⟩) (Kd.qbs (p := ⟨gb195, 0, none⟩) (Kd.qbq HO_0.out BK195.out (by decide)) (fun _ hk => hk.2) (.int .i64 x178000_1)) (fun _ hk => hk.2) (.int .i64 (wrap64 (x178000_1 + 1)))) (fun _ hk => trivial)⟩, ⟨by (try simp only [hl0_3]); (with_reducible repeat (first | refine kQN ?_ _ | refine kQD ?_ | refine kQA ?_ _)); refine kQP (cs := #[.int .i64 x178000_1]) ?_ 0 _ rfl; (with_reducible repeat (first | refine kQN ?_ _ | refine kQD ?_ | refine kQA ?_ _)); refine kQP (cs := #[.int .i64 0]) ?_ 0 _ rfl; (with_reducible repeat (first | refine kQN ?_ _ | refine kQD ?_ | refine kQA ?_ _)); exact BK195.out⟩, ⟨by repeat (first | (with_reducible first | exact HB.out | apply bQA | apply bQN | apply bQ1 | refine bQS ?_ GE177.out | refine bQS ?_ GE195.out) | exact HB.out)⟩⟩
           ·rw [if_neg c25] at H
            exact absurd H (by simp)
          ·rw [if_neg c24] at H
           exact absurd H (by simp)
         ·rw [if_neg c23] at H
          exact absurd H (by simp)
       ·rw [if_neg c13] at H
        exact absurd H (by simp)
      ·rw [if_neg c12] at H
       exact absurd H (by simp)
     ·replace c11 := Bool.eq_false_iff.mpr c11
      subst c11
      have H1 : (if 0 ≤ x3_1 then (if x3_1 ≤ (x0_1.length : Int) then (some (x0_1.take (x3_1 : Int).toNat)) else (none)) else (none)) = some r := by rw [if_neg (show ¬ (false = true) by decide)] at H; exact H
      clear H
      have H := H1
      clear H1
      by_cases c52 : 0 ≤ x3_1
      ·rw [if_pos c52] at H
       have c52b0 := eq_true c52
       have c52b1 : decide (0 ≤ x3_1) = true := decide_eq_true c52
       clear c52
       by_cases c53 : x3_1 ≤ (x0_1.length : Int)
       ·rw [if_pos c53] at H
        have c53b0 := eq_true c53
        have c53b1 : decide (x3_1 ≤ (x0_1.length : Int)) = true := decide_eq_true c53
        clear c53
        obtain ⟨y178, hy178⟩ : ∃ y_ : List Int, y_ = (x0_1.take (x3_1 : Int).toNat) := ⟨_, rfl⟩
        replace H : (some y178) = some r := by first | (rw [hy178]; with_reducible exact H) | (have H2_ := (Option.bind_some _ _).symm.trans H; rw [hy178]; with_reducible exact H2_) | (have H2_ := (Option.bind_some _ _).symm.trans H; with_reducible exact H2_) | with_reducible exact H | (rw [hy178]; exact H) | exact H
        have Ny178 := Aq.mk hy178
        clear hy178
        obtain rfl := Option.some.inj H
        obtain ⟨Ao54, co54, eo54⟩ := Kd.qbw HO_0.out
        subst eo54
        have q55 : (x3_1 : Int) ≤ ((x0_1.length : Int) : Int) := of_decide_eq_true (by first | (with_reducible assumption) | assumption)
        obtain ⟨i055, hi055, _, hsz55, _⟩ := info_parts info2
        have hcut55 := cut_to (P := Try.prog) 22 2 .i64 Try.underlying22 hi055 Ao54 x0_1.length co54 x3_1 (of_decide_eq_true (by first | (with_reducible assumption) | assumption)) q55 (Kd.qbi HO_0.out).2.1
        have hr55 := Kd.R_take (m := (x3_1 : Int).toNat) HO_0.out (by omega)
        have hy55 : y178.length = (x3_1 : Int).toNat := (by rw [Ny178.out, List.length_take]; omega)
        rw [← Ny178.out] at hr55
        rw [← hy55] at hr55 hcut55
        clear hy55 hi055 hsz55 HO_0
        have HO180 := Aq.mk hr55
        clear hr55
        replace q55 := eq_true q55
        go_wp2
        go_ret
        exact ⟨_, by first | rfl | (simp [errW_none, errW_some] <;> rfl) | (simp [*, errW_none, errW_some] <;> rfl), by (with_reducible repeat (first | apply rA | apply rN | apply rD)); exact HO180.out, by repeat (first | (with_reducible first | exact HB.out | apply bQA | apply bQN | apply bQ1 | refine bQS ?_ GE177.out) | exact HB.out)⟩
       ·rw [if_neg c53] at H
        exact absurd H (by simp)
      ·rw [if_neg c52] at H
       exact absurd H (by simp)
end Go.Proofs.Ytbaicdgkpnbipaa.P
