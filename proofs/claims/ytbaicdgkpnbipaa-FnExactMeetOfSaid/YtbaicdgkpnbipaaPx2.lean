/- Printed functions. -/
import Derived.Test.YtbaicdgkpnbipaaPx0
import Derived.Test.YtbaicdgkpnbipaaPx1
namespace Go.Proofs.Ytbaicdgkpnbipaa.P
open Go.Shelf Go.RowKit Go.Proofs.YtbaicdgkpnbipaaW.PrintWords Go.Proofs.YtbaicdgkpnbipaaW.PrintLast Go.Proofs.YtbaicdgkpnbipaaW.PrintMore
attribute [local go_sem] max2_int min2_int max_two min_two max_three min_three max_four min_four
set_option linter.unusedVariables false
set_option linter.unusedSimpArgs false
mutual
def qaa.l0 : Nat → Int → List Int → List Int → Int → Option (List Int)
  | 0, _, _, _, _ => none
  | k + 1, x0, x5, x6, x7 => if x7 < x0 then (qaa.l1 k x0 x5 x6 x7 (-1) 0) else (some x6)
def qaa.l1 : Nat → Int → List Int → List Int → Int → Int → Int → Option (List Int)
  | 0, _, _, _, _, _, _ => none
  | k + 1, x0, x5, x6, x7, x8, x9 => if x9 < (x5.length : Int) then (qaa.j2 k x0 x5 x6 x7 x8 x9 (decide (x8 < 0))) else (qaa.j2 k x0 x5 x6 x7 x8 x9 false)
def qaa.j2 : Nat → Int → List Int → List Int → Int → Int → Int → Bool → Option (List Int)
  | 0, _, _, _, _, _, _, _ => none
  | k + 1, x0, x5, x6, x7, x8, x9, x28 => if x28 = true then (if 0 ≤ x9 then (if x9 < (x5.length : Int) then ((qbb.f (rd x5 x9) x7).bind fun t119 => (if t119 = 1 then (qaa.l1 k x0 x5 x6 x7 x9 (wrap64 (x9 + 1))) else (qaa.l1 k x0 x5 x6 x7 x8 (wrap64 (x9 + 1))))) else (none)) else (none)) else (if x8 < 0 then (qaa.l0 k x0 x5 x6 (wrap64 (x7 + 1))) else (if 0 ≤ x8 then (if x8 < (x5.length : Int) then (qaa.l2 k x0 (x5.set (x8 : Int).toNat 0) x6 x7 (rd x5 x8) 0) else (none)) else (none)))
def qaa.l2 : Nat → Int → List Int → List Int → Int → Int → Int → Option (List Int)
  | 0, _, _, _, _, _, _ => none
  | k + 1, x0, x5, x6, x7, x10, x11 => if x11 < (x5.length : Int) then (if 0 ≤ x11 then ((qbb.f (rd x5 x11) x7).bind fun t123 => (if t123 = 1 then (qaa.l2 k x0 (x5.set (x11 : Int).toNat (Go.bits .xor .i64 (rd x5 x11) x10)) x6 x7 x10 (wrap64 (x11 + 1))) else (qaa.l2 k x0 x5 x6 x7 x10 (wrap64 (x11 + 1))))) else (none)) else (qaa.l3 k x0 x5 x6 x7 x10 0)
def qaa.l3 : Nat → Int → List Int → List Int → Int → Int → Int → Option (List Int)
  | 0, _, _, _, _, _, _ => none
  | k + 1, x0, x5, x6, x7, x10, x12 => if x12 < (x6.length : Int) then (if 0 ≤ x12 then ((qbb.f (rd x6 x12) x7).bind fun t127 => (if t127 = 1 then (qaa.l3 k x0 x5 (x6.set (x12 : Int).toNat (Go.bits .xor .i64 (rd x6 x12) x10)) x7 x10 (wrap64 (x12 + 1))) else (qaa.l3 k x0 x5 x6 x7 x10 (wrap64 (x12 + 1))))) else (none)) else (if x6.length < 17592186044416 then (qaa.l0 k x0 x5 (x6 ++ [x10]) (wrap64 (x7 + 1))) else (none))
end
def qaa.f (k : Nat) (a0 : Int) (l1 : List Int) : Option (List Int) := (qbf.f l1).bind fun t112 => (qaa.l0 k a0 t112 (([] : List Int)) 0)
theorem qaa.mono_l : ∀ k, (∀ y0 y1 y2 y3, LeO (qaa.l0 k y0 y1 y2 y3) (qaa.l0 (k + 1) y0 y1 y2 y3)) ∧ (∀ y0 y1 y2 y3 y4 y5, LeO (qaa.l1 k y0 y1 y2 y3 y4 y5) (qaa.l1 (k + 1) y0 y1 y2 y3 y4 y5)) ∧ (∀ y0 y1 y2 y3 y4 y5 y6, LeO (qaa.j2 k y0 y1 y2 y3 y4 y5 y6) (qaa.j2 (k + 1) y0 y1 y2 y3 y4 y5 y6)) ∧ (∀ y0 y1 y2 y3 y4 y5, LeO (qaa.l2 k y0 y1 y2 y3 y4 y5) (qaa.l2 (k + 1) y0 y1 y2 y3 y4 y5)) ∧ (∀ y0 y1 y2 y3 y4 y5, LeO (qaa.l3 k y0 y1 y2 y3 y4 y5) (qaa.l3 (k + 1) y0 y1 y2 y3 y4 y5))
 | 0 => ⟨fun _ _ _ _ r h => by simp [qaa.l0] at h, fun _ _ _ _ _ _ r h => by simp [qaa.l1] at h, fun _ _ _ _ _ _ _ r h => by simp [qaa.j2] at h, fun _ _ _ _ _ _ r h => by simp [qaa.l2] at h, fun _ _ _ _ _ _ r h => by simp [qaa.l3] at h⟩
 | k + 1 => by
  obtain ⟨ih0, ih1, ih2, ih3, ih4⟩ := qaa.mono_l k
  refine ⟨?_, ?_, ?_, ?_, ?_⟩
  ·intro y0 y1 y2 y3
   unfold qaa.l0
   repeat' first
   | (with_reducible first | exact ih0 _ _ _ _ | exact ih1 _ _ _ _ _ _ | exact ih2 _ _ _ _ _ _ _ | exact ih3 _ _ _ _ _ _ | exact ih4 _ _ _ _ _ _ | exact LeO.refl _ | exact LeO.none _ | refine LeO.ite ?_ ?_ | refine LeO.bind ?_ (fun _ => ?_))
   | exact LeO.none _
   | refine LeO.ite ?_ ?_
   | refine LeO.bind ?_ (fun _ => ?_)
  ·intro y0 y1 y2 y3 y4 y5
   unfold qaa.l1
   repeat' first
   | (with_reducible first | exact ih0 _ _ _ _ | exact ih1 _ _ _ _ _ _ | exact ih2 _ _ _ _ _ _ _ | exact ih3 _ _ _ _ _ _ | exact ih4 _ _ _ _ _ _ | exact LeO.refl _ | exact LeO.none _ | refine LeO.ite ?_ ?_ | refine LeO.bind ?_ (fun _ => ?_))
   | exact LeO.none _
   | refine LeO.ite ?_ ?_
   | refine LeO.bind ?_ (fun _ => ?_)
  ·intro y0 y1 y2 y3 y4 y5 y6
   unfold qaa.j2
   repeat' first
   | (with_reducible first | exact ih0 _ _ _ _ | exact ih1 _ _ _ _ _ _ | exact ih2 _ _ _ _ _ _ _ | exact ih3 _ _ _ _ _ _ | exact ih4 _ _ _ _ _ _ | exact LeO.refl _ | exact LeO.none _ | refine LeO.ite ?_ ?_ | refine LeO.bind ?_ (fun _ => ?_))
   | exact LeO.none _
   | refine LeO.ite ?_ ?_
   | refine LeO.bind ?_ (fun _ => ?_)
  ·intro y0 y1 y2 y3 y4 y5
   unfold qaa.l2
   repeat' first
   | (with_reducible first | exact ih0 _ _ _ _ | exact ih1 _ _ _ _ _ _ | exact ih2 _ _ _ _ _ _ _ | exact ih3 _ _ _ _ _ _ | exact ih4 _ _ _ _ _ _ | exact LeO.refl _ | exact LeO.none _ | refine LeO.ite ?_ ?_ | refine LeO.bind ?_ (fun _ => ?_))
   | exact LeO.none _
   | refine LeO.ite ?_ ?_
   | refine LeO.bind ?_ (fun _ => ?_)
  ·intro y0 y1 y2 y3 y4 y5
   unfold qaa.l3
   repeat' first
   | (with_reducible first | exact ih0 _ _ _ _ | exact ih1 _ _ _ _ _ _ | exact ih2 _ _ _ _ _ _ _ | exact ih3 _ _ _ _ _ _ | exact ih4 _ _ _ _ _ _ | exact LeO.refl _ | exact LeO.none _ | refine LeO.ite ?_ ?_ | refine LeO.bind ?_ (fun _ => ?_))
   | exact LeO.none _
   | refine LeO.ite ?_ ?_
   | refine LeO.bind ?_ (fun _ => ?_)
theorem qaa.mono : ∀ a0 a1 k, LeO (qaa.f k a0 a1) (qaa.f (k + 1) a0 a1) := by
 intro a0 a1 k
 obtain ⟨ih0, ih1, ih2, ih3, ih4⟩ := qaa.mono_l k
 unfold qaa.f
 repeat' first
  | (with_reducible first | exact ih0 _ _ _ _ | exact ih1 _ _ _ _ _ _ | exact ih2 _ _ _ _ _ _ _ | exact ih3 _ _ _ _ _ _ | exact ih4 _ _ _ _ _ _ | exact LeO.refl _ | exact LeO.none _ | refine LeO.ite ?_ ?_ | refine LeO.bind ?_ (fun _ => ?_))
  | exact LeO.none _
  | refine LeO.ite ?_ ?_
  | refine LeO.bind ?_ (fun _ => ?_)
set_option maxHeartbeats 8000000 in
set_option maxRecDepth 100000 in
theorem qaa.calls (k : Nat) (a0 : Int) (A1 : Option Addr) (c1 : Nat) (l1 : List Int) (r : List Int) (w : World) (hr1 : Kd.C (Kd.int .i64) w A1 l1.length l1) (hc1 : l1.length ≤ c1) (h : qaa.f k a0 l1 = some r) :
 Calls Try.prog 69 #[.int .i64 a0, .slice A1 l1.length c1] w fun e w' => ∃ v0_ : Value, e = .returned (v0_) ∧ Kd.R (Kd.int .i64) 2 w' w.heap.size (fun _ => True) v0_ r ∧ Below w.heap.size w w' := by
 have HR1 := Aq.mk hr1
 have HC1 := Aq.mk hc1
 clear hr1 hc1
 have HB := Aq.mk (Below.refl w.heap.size w)
 have H : ((qbf.f l1).bind fun t112 => (qaa.l0 k a0 t112 (([] : List Int)) 0)) = some r := h
 clear h
 replace H := Option.bind_eq_some_iff.mp H
 obtain ⟨t112, A30, H⟩ := H
 replace H : (qaa.l0 k a0 t112 (([] : List Int)) 0) = some r := H
 have A3 := Aq.mk A30
 clear A30
 obtain ⟨y115, hy115⟩ : ∃ y_ : List Int, y_ = (([] : List Int)) := ⟨_, rfl⟩
 replace H : (qaa.l0 k a0 t112 y115 0) = some r := by first | (rw [hy115]; with_reducible exact H) | (have H2_ := (Option.bind_some _ _).symm.trans H; rw [hy115]; with_reducible exact H2_) | (have H2_ := (Option.bind_some _ _).symm.trans H; with_reducible exact H2_) | with_reducible exact H | (rw [hy115]; exact H) | exact H
 have Ny115 := Aq.mk hy115
 clear hy115
 have H' := Aq.mk H
 clear H
 go_enter Try.func69, Try.ntmps69
 go_wp2_with (first | ((with_reducible refine gQc (f := 89) rfl ?_); refine qbz (some 14) rfl rfl Try.func89 (by kernel_rfl) rfl #[.slice A1 l1.length c1] rfl (by (try simp only [List.map_toArray, List.map_cons, List.map_nil]); first | done | rfl | (simp only [List.length_drop, List.length_take]; rfl)) ?_; (with_reducible refine (qbf.calls _ _ l1 t112 _ ?side1 ?side2 A3.out).mono ?_); (case side1 => repeat (first | exact HR1.out | (with_reducible refine Kd.CqA ?_ _) | (with_reducible refine Kd.CqN ?_ _) | (with_reducible refine Kd.CqD ?_))); (case side2 => exact HC1.out); rintro e w4 ⟨v113, rfl, ho0, hb⟩; refine ⟨_, rfl, ?_⟩; have HO114 := Aq.mk (Kd.qbx ho0 (bQZ (by repeat (with_reducible first | exact HB.out | apply bQA | apply bQN | apply bQ1)))); replace HB := Aq.mk (bQT (by repeat (with_reducible first | exact HB.out | apply bQA | apply bQN | apply bQ1)) hb); (try clear hb); (try clear hb2); (try clear hk); (try clear hi); (try clear ho0)) | ((with_reducible refine gQd (N := 15) rfl ?_); refine Kd.R_lit (Kd.int .i64) _ 2 ?hg (N := 15) ?hd (xs := ([] : List Int)) (inner := []) (ok := fun _ => True) (okp := fun _ => True) ?hr ?hp (fun _ hk => hk) trivial (Below.refl _ _) (Nat.le_refl _) (by simp) ?_; (case hd => rfl); (case hg => rfl); (case hr => first | (go_simp; done) | (go_simp; rfl)); (case hp => exact (Reps.none _ _)); intro v116 w5 ho6 hb hg_ hnew_; clear hg_ hnew_; (first | rw [← Ny115.out] at ho6 | (simp only [Int.reduceToNat] at ho6; rw [← Ny115.out] at ho6)); have HO117 := Aq.mk (Kd.qbx (Kd.qbu ho6 (Kd.R_lt (by (with_reducible repeat (first | apply rA | apply rN | apply rD)); exact HO114.out))) (bQZ (by repeat (with_reducible first | exact HB.out | apply bQA | apply bQN | apply bQ1)))); replace HO114 := Aq.mk (Kd.qbm (by (with_reducible repeat (first | apply rA | apply rN | apply rD)); exact HO114.out) (Kd.qbr ho6) hb); replace HB := Aq.mk (bQT (by repeat (with_reducible first | exact HB.out | apply bQA | apply bQN | apply bQ1)) hb); clear hb ho6))
 go_loopg [6, 7] k (fun kq v6 v7 w' => ∃ (x5_1 : List Int) (x6_1 : List Int) (x7_1 : Int), v7 = .int .i64 x7_1 ∧ Aq (qaa.l0 kq a0 x5_1 x6_1 x7_1 = some r) ∧ Aq (kq ≤ k) ∧ Aq (Kd.R (Kd.int .i64) 2 w' w.heap.size (fun k_ => some k_ ≠ (v6 : Value).ownBlock) v113 x5_1) ∧ Aq (Kd.R (Kd.int .i64) 2 w' w.heap.size (fun k_ => some k_ ≠ (v113 : Value).ownBlock) v6 x6_1) ∧ Aq (Below w.heap.size w w'))
 case atStart => exact ⟨(t112), (y115), (0), (by first | rfl | (simp; done) | (simp [*]; done)), H', ⟨Nat.le_refl _⟩, ⟨by (with_reducible repeat (first | apply rA | apply rN | apply rD)); exact Kd.qbj HO114.out (fun _ hk => hk.2)⟩, ⟨by (with_reducible repeat (first | apply rA | apply rN | apply rD)); exact Kd.qbj HO117.out (fun _ hk => hk.2)⟩, ⟨by repeat (first | (with_reducible first | exact HB.out | apply bQA | apply bQN | apply bQ1) | exact HB.out)⟩⟩
 case round =>
  clear H'
  try clear c1
  try clear p2
  try clear c6
  obtain ⟨x5_1, x6_1, x7_1, rfl, HA, HK1, HO_5, HO_6, HB⟩ := hrel
  cases gk with
  | zero => exact absurd HA.out (by simp [qaa.l0])
  | succ k1 =>
   have H := HA.out
   clear HA
   simp only [qaa.l0] at H
   by_cases c7 : x7_1 < a0
   ·rw [if_pos c7] at H
    have c7b0 : decide (x7_1 < a0) = true := decide_eq_true c7
    clear c7
    have H' := Aq.mk H
    clear H
    go_wp2
    go_loopg [8, 9] k1 (fun kq v8 v9 w' => ∃ (x8_2 : Int) (x9_2 : Int), v8 = .int .i64 x8_2 ∧ v9 = .int .i64 x9_2 ∧ Aq (qaa.l1 kq a0 x5_1 x6_1 x7_1 x8_2 x9_2 = some r) ∧ Aq (kq ≤ k1) ∧ Aq (Kd.R (Kd.int .i64) 2 w' w.heap.size (fun k_ => some k_ ≠ (u6 : Value).ownBlock) v113 x5_1) ∧ Aq (Kd.R (Kd.int .i64) 2 w' w.heap.size (fun k_ => some k_ ≠ (v113 : Value).ownBlock) u6 x6_1) ∧ Aq (Below w.heap.size w w'))
    case atStart => exact ⟨((-1)), (0), (by first | rfl | (simp; done) | (simp [*]; done)), (by first | rfl | (simp; done) | (simp [*]; done)), H', ⟨Nat.le_refl _⟩, ⟨by (with_reducible repeat (first | apply rA | apply rN | apply rD)); exact HO_5.out⟩, ⟨by (with_reducible repeat (first | apply rA | apply rN | apply rD)); exact HO_6.out⟩, ⟨by repeat (first | (with_reducible first | exact HB.out | apply bQA | apply bQN | apply bQ1) | exact HB.out)⟩⟩
    case round =>
     clear H'
     try clear c1
     try clear p2
     try clear c6
     try clear c7
     try clear c7b0
     try clear p2
     obtain ⟨x8_2, x9_2, rfl, rfl, HA, HK2, HO_5, HO_6, HB⟩ := hrel
     cases gk with
     | zero => exact absurd HA.out (by simp [qaa.l1])
     | succ k2 =>
      have H := HA.out
      clear HA
      simp only [qaa.l1] at H
      have HC8 := Aq.mk H
      clear H
      go_upto_region 8 with (fail)
      go_cut [28] (fun v28 wc => ∃ (kq : Nat) (x28_7 : Bool), v28 = .bool x28_7 ∧ Aq (qaa.j2 kq a0 x5_1 x6_1 x7_1 x8_2 x9_2 x28_7 = some r) ∧ Aq (kq ≤ k2) ∧ Aq (Kd.R (Kd.int .i64) 2 wc w.heap.size (fun k_ => some k_ ≠ (u6 : Value).ownBlock) v113 x5_1) ∧ Aq (Kd.R (Kd.int .i64) 2 wc w.heap.size (fun k_ => some k_ ≠ (v113 : Value).ownBlock) u6 x6_1) ∧ Aq (Below w.heap.size w wc))
      case first =>
       have H := HC8.out
       clear HC8
       by_cases c9 : x9_2 < (x5_1.length : Int)
       ·rw [if_pos c9] at H
        have c9b0 : decide (x9_2 < (x5_1.length : Int)) = true := decide_eq_true c9
        clear c9
        (first | rw [c9b0] | (simp only [qbl, qbn]; rw [c9b0]) | skip)
        have H' := Aq.mk H
        clear H
        obtain ⟨Ao10, co10, eo10⟩ := Kd.qbw HO_5.out
        subst eo10
        go_wp2
        go_meet
        case rel => exact ⟨_, (decide (x8_2 < 0)), (by first | rfl | (simp; done) | (simp [*]; done)), H', ⟨by have := HK1.out; have := HK2.out; first | omega | exact Nat.le_refl _⟩, ⟨by (with_reducible repeat (first | apply rA | apply rN | apply rD)); exact HO_5.out⟩, ⟨by (with_reducible repeat (first | apply rA | apply rN | apply rD)); exact HO_6.out⟩, ⟨by repeat (first | (with_reducible first | exact HB.out | apply bQA | apply bQN | apply bQ1) | exact HB.out)⟩⟩
       ·rw [if_neg c9] at H
        have c9b0 : decide (x9_2 < (x5_1.length : Int)) = false := decide_eq_false c9
        clear c9
        (first | rw [c9b0] | (simp only [qbl, qbn]; rw [c9b0]) | skip)
        have H' := Aq.mk H
        clear H
        obtain ⟨Ao11, co11, eo11⟩ := Kd.qbw HO_5.out
        subst eo11
        go_wp2
        go_meet
        case rel => exact ⟨_, (false), (by first | rfl | (simp; done) | (simp [*]; done)), H', ⟨by have := HK1.out; have := HK2.out; first | omega | exact Nat.le_refl _⟩, ⟨by (with_reducible repeat (first | apply rA | apply rN | apply rD)); exact HO_5.out⟩, ⟨by (with_reducible repeat (first | apply rA | apply rN | apply rD)); exact HO_6.out⟩, ⟨by repeat (first | (with_reducible first | exact HB.out | apply bQA | apply bQN | apply bQ1) | exact HB.out)⟩⟩
      case rest =>
       clear HC8
       try clear c1
       try clear p2
       try clear c6
       try clear c7
       try clear c7b0
       try clear c8
       try clear c9
       try clear c9b0
       try clear p2
       obtain ⟨kq, x28_7, rfl, HA, HJ7, HO_5, HO_6, HB⟩ := hcut
       cases kq with
       | zero => exact absurd HA.out (by simp [qaa.j2])
       | succ kj7 =>
        have H := HA.out
        clear HA
        simp only [qaa.j2] at H
        by_cases c12 : x28_7 = true
        ·subst c12
         have H1 : (if 0 ≤ x9_2 then (if x9_2 < (x5_1.length : Int) then ((qbb.f (rd x5_1 x9_2) x7_1).bind fun t119 => (if t119 = 1 then (qaa.l1 kj7 a0 x5_1 x6_1 x7_1 x9_2 (wrap64 (x9_2 + 1))) else (qaa.l1 kj7 a0 x5_1 x6_1 x7_1 x8_2 (wrap64 (x9_2 + 1))))) else (none)) else (none)) = some r := by rw [if_pos rfl] at H; exact H
         clear H
         have H := H1
         clear H1
         by_cases c13 : 0 ≤ x9_2
         ·rw [if_pos c13] at H
          have c13b0 : decide (0 ≤ x9_2) = true := decide_eq_true c13
          clear c13
          by_cases c14 : x9_2 < (x5_1.length : Int)
          ·rw [if_pos c14] at H
           have c14b0 : decide (x9_2 < (x5_1.length : Int)) = true := decide_eq_true c14
           clear c14
           replace H := Option.bind_eq_some_iff.mp H
           obtain ⟨t119, A150, H⟩ := H
           replace H : (if t119 = 1 then (qaa.l1 kj7 a0 x5_1 x6_1 x7_1 x9_2 (wrap64 (x9_2 + 1))) else (qaa.l1 kj7 a0 x5_1 x6_1 x7_1 x8_2 (wrap64 (x9_2 + 1)))) = some r := H
           have A15 := Aq.mk A150
           clear A150
           by_cases c16 : t119 = 1
           ·rw [if_pos c16] at H
            have c16b0 : (t119 == 1) = true := beq_iff_eq.mpr c16
            have c16b1 : (t119 != 1) = false := bne_eq_false_iff_eq.mpr c16
            clear c16
            have H' := Aq.mk H
            clear H
            obtain ⟨Ao17, co17, eo17⟩ := Kd.qbw HO_5.out
            subst eo17
            have p118 : 0 ≤ (x9_2 : Int) := of_decide_eq_true (by first | (with_reducible assumption) | assumption)
            have q118 : x9_2 < (x5_1.length : Int) := of_decide_eq_true (by first | (with_reducible assumption) | assumption)
            obtain ⟨ad118, e118, hx118_0⟩ := Kd.at_int (Kd.qbi HO_5.out).2.2 x9_2 p118 q118
            cases e118
            replace p118 := eq_true p118
            replace q118 := eq_true q118
            go_wp2_with (first | ((with_reducible refine gQc (f := 107) rfl ?_); refine qbz (some 36) rfl rfl Try.func107 (by kernel_rfl) rfl #[.int .i64 (rd x5_1 x9_2), .int .i64 x7_1] rfl (by (try simp only [List.map_toArray, List.map_cons, List.map_nil]); first | done | rfl | (simp only [List.length_drop, List.length_take]; rfl)) ?_; (with_reducible refine (qbb.calls (rd x5_1 x9_2) x7_1 t119 _ A15.out).mono ?_); rintro e w' ⟨rfl, ⟨nd, rfl⟩⟩; refine ⟨_, rfl, ?_⟩))
            go_roundg kj7
            case measure => have := HK1.out; have := HK2.out; have := HJ7.out; omega
            case rel => exact ⟨(x9_2), (wrap64 (x9_2 + 1)), (by first | rfl | (simp; done) | (simp [*]; done)), (by first | rfl | (simp; done) | (simp [*]; done)), H', ⟨by have := HK1.out; have := HK2.out; have := HJ7.out; omega⟩, ⟨by (with_reducible repeat (first | apply rA | apply rN | apply rD)); exact HO_5.out⟩, ⟨by (with_reducible repeat (first | apply rA | apply rN | apply rD)); exact HO_6.out⟩, ⟨by repeat (first | (with_reducible first | exact HB.out | apply bQA | apply bQN | apply bQ1) | exact HB.out)⟩⟩
           ·rw [if_neg c16] at H
            have c16b0 : (t119 == 1) = false := beq_eq_false_iff_ne.mpr c16
            have c16b1 : (t119 != 1) = true := bne_iff_ne.mpr c16
            have H' := Aq.mk H
            clear H
            obtain ⟨Ao18, co18, eo18⟩ := Kd.qbw HO_5.out
            subst eo18
            have p118 : 0 ≤ (x9_2 : Int) := of_decide_eq_true (by first | (with_reducible assumption) | assumption)
            have q118 : x9_2 < (x5_1.length : Int) := of_decide_eq_true (by first | (with_reducible assumption) | assumption)
            obtain ⟨ad118, e118, hx118_0⟩ := Kd.at_int (Kd.qbi HO_5.out).2.2 x9_2 p118 q118
            cases e118
            replace p118 := eq_true p118
            replace q118 := eq_true q118
            go_wp2_with (first | ((with_reducible refine gQc (f := 107) rfl ?_); refine qbz (some 36) rfl rfl Try.func107 (by kernel_rfl) rfl #[.int .i64 (rd x5_1 x9_2), .int .i64 x7_1] rfl (by (try simp only [List.map_toArray, List.map_cons, List.map_nil]); first | done | rfl | (simp only [List.length_drop, List.length_take]; rfl)) ?_; (with_reducible refine (qbb.calls (rd x5_1 x9_2) x7_1 t119 _ A15.out).mono ?_); rintro e w' ⟨rfl, ⟨nd, rfl⟩⟩; refine ⟨_, rfl, ?_⟩))
            go_roundg kj7
            case measure => have := HK1.out; have := HK2.out; have := HJ7.out; omega
            case rel => exact ⟨(x8_2), (wrap64 (x9_2 + 1)), (by first | rfl | (simp; done) | (simp [*]; done)), (by first | rfl | (simp; done) | (simp [*]; done)), H', ⟨by have := HK1.out; have := HK2.out; have := HJ7.out; omega⟩, ⟨by (with_reducible repeat (first | apply rA | apply rN | apply rD)); exact HO_5.out⟩, ⟨by (with_reducible repeat (first | apply rA | apply rN | apply rD)); exact HO_6.out⟩, ⟨by repeat (first | (with_reducible first | exact HB.out | apply bQA | apply bQN | apply bQ1) | exact HB.out)⟩⟩
          ·rw [if_neg c14] at H
           exact absurd H (by simp)
         ·rw [if_neg c13] at H
          exact absurd H (by simp)
        ·replace c12 := Bool.eq_false_iff.mpr c12
         subst c12
         have H1 : (if x8_2 < 0 then (qaa.l0 kj7 a0 x5_1 x6_1 (wrap64 (x7_1 + 1))) else (if 0 ≤ x8_2 then (if x8_2 < (x5_1.length : Int) then (qaa.l2 kj7 a0 (x5_1.set (x8_2 : Int).toNat 0) x6_1 x7_1 (rd x5_1 x8_2) 0) else (none)) else (none))) = some r := by rw [if_neg (show ¬ (false = true) by decide)] at H; exact H
         clear H
         have H := H1
         clear H1
         by_cases c19 : x8_2 < 0
         ·rw [if_pos c19] at H
          have c19b0 : decide (x8_2 < 0) = true := decide_eq_true c19
          clear c19
          have H' := Aq.mk H
          clear H
          go_wp2
          go_roundg kj7
          case measure => have := HK1.out; have := HK2.out; have := HJ7.out; omega
          case rel => exact ⟨(x5_1), (x6_1), (wrap64 (x7_1 + 1)), (by first | rfl | (simp; done) | (simp [*]; done)), H', ⟨by have := HK1.out; have := HK2.out; have := HJ7.out; omega⟩, ⟨by (with_reducible repeat (first | apply rA | apply rN | apply rD)); exact HO_5.out⟩, ⟨by (with_reducible repeat (first | apply rA | apply rN | apply rD)); exact HO_6.out⟩, ⟨by repeat (first | (with_reducible first | exact HB.out | apply bQA | apply bQN | apply bQ1) | exact HB.out)⟩⟩
         ·rw [if_neg c19] at H
          have c19b0 : decide (x8_2 < 0) = false := decide_eq_false c19
          clear c19
          by_cases c20 : 0 ≤ x8_2
          ·rw [if_pos c20] at H
           have c20b0 : decide (0 ≤ x8_2) = true := decide_eq_true c20
           clear c20
           by_cases c21 : x8_2 < (x5_1.length : Int)
           ·rw [if_pos c21] at H
            have c21b0 : decide (x8_2 < (x5_1.length : Int)) = true := decide_eq_true c21
            clear c21
            obtain ⟨y121, hy121⟩ : ∃ y_ : List Int, y_ = (x5_1.set (x8_2 : Int).toNat 0) := ⟨_, rfl⟩
            replace H : (qaa.l2 kj7 a0 y121 x6_1 x7_1 (rd x5_1 x8_2) 0) = some r := by first | (rw [hy121]; with_reducible exact H) | (have H2_ := (Option.bind_some _ _).symm.trans H; rw [hy121]; with_reducible exact H2_) | (have H2_ := (Option.bind_some _ _).symm.trans H; with_reducible exact H2_) | with_reducible exact H | (rw [hy121]; exact H) | exact H
            have Ny121 := Aq.mk hy121
            clear hy121
            have H' := Aq.mk H
            clear H
            obtain ⟨Ao23, co23, eo23⟩ := Kd.qbw HO_5.out
            subst eo23
            have p120 : 0 ≤ (x8_2 : Int) := of_decide_eq_true (by first | (with_reducible assumption) | assumption)
            have q120 : x8_2 < (x5_1.length : Int) := of_decide_eq_true (by first | (with_reducible assumption) | assumption)
            obtain ⟨ad120, e120, hx120_0⟩ := Kd.at_int (Kd.qbi HO_5.out).2.2 x8_2 p120 q120
            cases e120
            replace p120 := eq_true p120
            replace q120 := eq_true q120
            have p22 : 0 ≤ (x8_2 : Int) := of_decide_eq_true (by first | (with_reducible assumption) | assumption)
            have q22 : (x8_2 : Int) < ((x5_1.length : Int) : Int) := of_decide_eq_true (by first | (with_reducible assumption) | assumption)
            obtain ⟨go22, co22, eo22, gb22, gl22, cl22, HG22⟩ := Kd.R_form HO_5.out (by omega)
            (first | cases eo22 | (injection eo22 with ea_ en_ ec_; (first | subst ea_ | (injection ea_ with ea_; subst ea_)); subst ec_; clear en_))
            have GB22 := Aq.mk gb22
            have GG22 := Aq.mk HG22
            clear gb22 gl22 HG22
            (first | simp only [add_plain] at hx120_0 | skip)
            obtain ⟨hx22_0, hf22_0⟩ := Kd.R_celln 0 HO_5.out (x8_2 : Int) p22 q22
            replace p22 := eq_true p22
            replace q22 := eq_true q22
            have HP24 := Kd.R_putg HO_5.out (x8_2 : Int) 0
            go_wp2_with (first | ((with_reducible refine gate_store (t := 2) (p := 47) rfl ?_); refine store_event (t := 2) (p := 47) (v := ?vo_w25) (w1 := (wc.setCell ⟨go22, (x8_2 : Int).toNat, none⟩ (.int .i64 0))) ?hg ?ho ?hn ?hr ?_; (case ho => rfl); (case hg => rfl); (case hn => rfl); (case hr => first | (go_simp; done) | (go_simp; rfl)); intro w25 hw; have hg : wc.grownBy w25 (some go22) := (by rw [hw]; exact HP24.2); have hp_ : Kd.R (Kd.int .i64) 2 w25 w.heap.size (fun k_ => some k_ ≠ (u6 : Value).ownBlock) (.slice (some ⟨go22, 0, none⟩) x5_1.length co23) y121 := (by rw [hw, Ny121.out]; exact HP24.1); clear HP24; replace HO_5 := Aq.mk (hp_); replace HO_6 := Aq.mk (Kd.R_after (v := (.slice (some ⟨go22, 0, none⟩) x5_1.length co23)) (v1 := (.slice (some ⟨go22, 0, none⟩) x5_1.length co23)) (ok := (fun _ => True)) (by (with_reducible repeat (first | apply rA | apply rN | apply rD)); exact Kd.qbj HO_6.out (fun _ hk => ⟨trivial, hk⟩)) hg (.inl rfl)); replace HB := Aq.mk ((by rw [hw]; exact bQS (HB.out) GB22.out : Below w.heap.size w w25)); clear hg hw hp_))
            go_loopg [11] kj7 (fun kq v11 w' => ∃ (x5_4 : List Int) (x11_4 : Int), v11 = .int .i64 x11_4 ∧ Aq (qaa.l2 kq a0 x5_4 x6_1 x7_1 (rd x5_1 x8_2) x11_4 = some r) ∧ Aq (kq ≤ kj7) ∧ Aq (Kd.R (Kd.int .i64) 2 w' w.heap.size (fun k_ => some k_ ≠ (u6 : Value).ownBlock) (.slice (some ⟨go22, 0, none⟩) x5_1.length co23) x5_4) ∧ Aq (Kd.R (Kd.int .i64) 2 w' w.heap.size (fun k_ => some k_ ≠ ((.slice (some ⟨go22, 0, none⟩) x5_1.length co23) : Value).ownBlock) u6 x6_1) ∧ Aq (Below w.heap.size w w'))
            case atStart => exact ⟨(y121), (0), (by first | rfl | (simp; done) | (simp [*]; done)), H', ⟨Nat.le_refl _⟩, ⟨by (with_reducible repeat (first | apply rA | apply rN | apply rD)); exact HO_5.out⟩, ⟨by (with_reducible repeat (first | apply rA | apply rN | apply rD)); exact Kd.qbj HO_6.out (fun _ hk => hk.2)⟩, ⟨by repeat (first | (with_reducible first | exact HB.out | apply bQA | apply bQN | apply bQ1) | exact HB.out)⟩⟩
            case round =>
             clear H'
             try clear c1
             try clear p1
             try clear q1
             try clear hx1
             try clear c2
             try clear p2
             try clear q2
             try clear hx2
             try clear hf2
             try clear c6
             try clear p6
             try clear c7
             try clear c7b0
             try clear c8
             try clear c9
             try clear c9b0
             try clear c10
             try clear p11
             try clear q11
             try clear hx11
             try clear c12
             try clear p12
             try clear q12
             try clear hx12
             try clear c13
             try clear c13b0
             try clear c14
             try clear c14b0
             try clear c16
             try clear c16b0
             try clear c16b1
             try clear c19
             try clear c19b0
             try clear c20
             try clear c20b0
             try clear c21
             try clear c21b0
             try clear p22
             try clear q22
             try clear hx22
             try clear hf22
             try clear hx118_0
             try clear hx120_0
             try clear hx22_0
             try clear p118
             try clear p120
             try clear p2
             try clear p22
             try clear q118
             try clear q120
             try clear q22
             obtain ⟨x5_4, x11_4, rfl, HA, HK4, HO_5, HO_6, HB⟩ := hrel
             have hl5_4 := (Kd.qbi HO_5.out).1
             rw [hl5_4] at HO_5
             (try simp only [hl5_4])
             (try simp only [hl5_4] at HO_6)
             cases gk with
             | zero => exact absurd HA.out (by simp [qaa.l2])
             | succ k4 =>
              have H := HA.out
              clear HA
              simp only [qaa.l2] at H
              by_cases c26 : x11_4 < (x5_4.length : Int)
              ·rw [if_pos c26] at H
               have c26b0 : decide (x11_4 < (x5_4.length : Int)) = true := decide_eq_true c26
               clear c26
               (try (have c26b0z := c26b0; simp only [hl5_4] at c26b0z))
               by_cases c27 : 0 ≤ x11_4
               ·rw [if_pos c27] at H
                have c27b0 : decide (0 ≤ x11_4) = true := decide_eq_true c27
                clear c27
                (try (have c27b0z := c27b0; simp only [hl5_4] at c27b0z))
                replace H := Option.bind_eq_some_iff.mp H
                obtain ⟨t123, A280, H⟩ := H
                replace H : (if t123 = 1 then (qaa.l2 k4 a0 (x5_4.set (x11_4 : Int).toNat (Go.bits .xor .i64 (rd x5_4 x11_4) (rd x5_1 x8_2))) x6_1 x7_1 (rd x5_1 x8_2) (wrap64 (x11_4 + 1))) else (qaa.l2 k4 a0 x5_4 x6_1 x7_1 (rd x5_1 x8_2) (wrap64 (x11_4 + 1)))) = some r := H
                have A28 := Aq.mk A280
                clear A280
                by_cases c29 : t123 = 1
                ·rw [if_pos c29] at H
                 have c29b0 : (t123 == 1) = true := beq_iff_eq.mpr c29
                 have c29b1 : (t123 != 1) = false := bne_eq_false_iff_eq.mpr c29
                 clear c29
                 (try (have c29b0z := c29b0; simp only [hl5_4] at c29b0z))
                 (try (have c29b1z := c29b1; simp only [hl5_4] at c29b1z))
                 obtain ⟨y125, hy125⟩ : ∃ y_ : List Int, y_ = (x5_4.set (x11_4 : Int).toNat (Go.bits .xor .i64 (rd x5_4 x11_4) (rd x5_1 x8_2))) := ⟨_, rfl⟩
                 replace H : (qaa.l2 k4 a0 y125 x6_1 x7_1 (rd x5_1 x8_2) (wrap64 (x11_4 + 1))) = some r := by first | (rw [hy125]; with_reducible exact H) | (have H2_ := (Option.bind_some _ _).symm.trans H; rw [hy125]; with_reducible exact H2_) | (have H2_ := (Option.bind_some _ _).symm.trans H; with_reducible exact H2_) | with_reducible exact H | (rw [hy125]; exact H) | exact H
                 have Ny125 := Aq.mk hy125
                 clear hy125
                 have H' := Aq.mk H
                 clear H
                 have p122 : 0 ≤ (x11_4 : Int) := of_decide_eq_true (by first | (with_reducible assumption) | assumption)
                 have q122 : x11_4 < (x5_4.length : Int) := of_decide_eq_true (by first | (with_reducible assumption) | assumption)
                 obtain ⟨ad122, e122, hx122_0⟩ := Kd.at_int (Kd.qbi HO_5.out).2.2 x11_4 p122 q122
                 obtain rfl : (⟨go22, 0, none⟩ : Addr) = ad122 := (by injection e122)
                 (first | simp only [add_plain] at hx122_0 | simp only [add_at] at hx122_0 | simp only [Addr.add, Nat.zero_add] at hx122_0 | skip)
                 replace p122 := eq_true p122
                 replace q122 := eq_true q122
                 go_wp2_with (first | ((with_reducible refine gQc (f := 107) rfl ?_); refine qbz (some 59) rfl rfl Try.func107 (by kernel_rfl) rfl #[.int .i64 (rd x5_4 x11_4), .int .i64 x7_1] rfl (by (try simp only [List.map_toArray, List.map_cons, List.map_nil]); first | done | rfl | (simp only [List.length_drop, List.length_take]; rfl)) ?_; (with_reducible refine (qbb.calls (rd x5_4 x11_4) x7_1 t123 _ A28.out).mono ?_); rintro e w' ⟨rfl, ⟨nd, rfl⟩⟩; refine ⟨_, rfl, ?_⟩; (try (rw [drewN_self wr]; generalize hq_ : World.drewN wr _ = wr; have n0_ : Aq (Kd.R (Kd.int .i64) 2 wr w.heap.size (fun k_ => some k_ ≠ (u6 : Value).ownBlock) (.slice (some ⟨go22, 0, none⟩) x5_4.length co23) x5_4) := ⟨by rw [← hq_]; exact (by (with_reducible repeat (first | apply rA | apply rN | apply rD)); exact HO_5.out)⟩; have n1_ : Aq (Kd.R (Kd.int .i64) 2 wr w.heap.size (fun k_ => some k_ ≠ (.slice (some ⟨go22, 0, none⟩) x5_4.length co23 : Value).ownBlock) u6 x6_1) := ⟨by rw [← hq_]; exact (by (with_reducible repeat (first | apply rA | apply rN | apply rD)); exact HO_6.out)⟩; have n2_ : Aq (Below w.heap.size w wr) := ⟨by rw [← hq_]; exact (by repeat (with_reducible first | exact HB.out | apply bQA | apply bQN | apply bQ1))⟩; clear HO_5 HO_6 HB hq_; have HO_5 := n0_; have HO_6 := n1_; have HB := n2_; clear n0_ n1_ n2_)); have p124 : 0 ≤ (x11_4 : Int) := of_decide_eq_true (by first | (with_reducible assumption) | assumption); have q124 : x11_4 < (x5_4.length : Int) := of_decide_eq_true (by first | (with_reducible assumption) | assumption); obtain ⟨ad124, e124, hx124_0⟩ := Kd.at_int (Kd.qbi HO_5.out).2.2 x11_4 p124 q124; obtain rfl : (⟨go22, 0, none⟩ : Addr) = ad124 := (by injection e124); (first | simp only [add_plain] at hx124_0 | simp only [add_at] at hx124_0 | simp only [Addr.add, Nat.zero_add] at hx124_0 | skip); replace p124 := eq_true p124; replace q124 := eq_true q124; have p30 : 0 ≤ (x11_4 : Int) := of_decide_eq_true (by first | (with_reducible assumption) | assumption); have q30 : (x11_4 : Int) < ((x5_4.length : Int) : Int) := of_decide_eq_true (by first | (with_reducible assumption) | assumption); obtain ⟨hx30_0, hf30_0⟩ := Kd.R_celln 0 HO_5.out (x11_4 : Int) p30 q30; replace p30 := eq_true p30; replace q30 := eq_true q30; obtain ⟨hy31_, hz31_⟩ := Kd.R_celln 0 HO_5.out (x11_4 : Int) (of_decide_eq_true (by first | (with_reducible assumption) | assumption)) (of_decide_eq_true (by first | (with_reducible assumption) | assumption)); have HP31 := Kd.R_putg HO_5.out (x11_4 : Int) (Go.bits .xor .i64 (rd x5_4 x11_4) (rd x5_1 x8_2))) | ((with_reducible refine gate_store (t := 2) (p := 67) rfl ?_); refine store_event (t := 2) (p := 67) (v := ?vo_w32) (w1 := (wr.setCell ⟨go22, (x11_4 : Int).toNat, none⟩ (.int .i64 (Go.bits .xor .i64 (rd x5_4 x11_4) (rd x5_1 x8_2))))) ?hg ?ho ?hn ?hr ?_; (case ho => rfl); (case hg => rfl); (case hn => rfl); (case hr => first | (go_simp; done) | (go_simp; rfl)); intro w32 hw; have hg : wr.grownBy w32 (some go22) := (by rw [hw]; exact HP31.2); have hp_ : Kd.R (Kd.int .i64) 2 w32 w.heap.size (fun k_ => some k_ ≠ (u6 : Value).ownBlock) (.slice (some ⟨go22, 0, none⟩) x5_4.length co23) y125 := (by rw [hw, Ny125.out]; exact HP31.1); clear HP31; replace HO_5 := Aq.mk (hp_); replace HO_6 := Aq.mk (Kd.R_after (v := (.slice (some ⟨go22, 0, none⟩) x5_4.length co23)) (v1 := (.slice (some ⟨go22, 0, none⟩) x5_4.length co23)) (ok := (fun _ => True)) (by (with_reducible repeat (first | apply rA | apply rN | apply rD)); exact Kd.qbj HO_6.out (fun _ hk => ⟨trivial, hk⟩)) hg (.inl rfl)); replace HB := Aq.mk ((by rw [hw]; exact bQS (HB.out) GB22.out : Below w.heap.size w w32)); clear hg hw hp_))
                 (try simp only [← hl5_4])
                 go_roundg k4
                 case measure => have := HK1.out; have := HK2.out; have := HJ7.out; have := HK4.out; omega
                 case rel => exact ⟨(y125), (wrap64 (x11_4 + 1)), (by first | rfl | (simp; done) | (simp [*]; done)), H', ⟨by have := HK1.out; have := HK2.out; have := HJ7.out; have := HK4.out; omega⟩, ⟨by (try simp only [hl5_4]); (with_reducible repeat (first | apply rA | apply rN | apply rD)); exact HO_5.out⟩, ⟨by (try simp only [hl5_4]); (with_reducible repeat (first | apply rA | apply rN | apply rD)); exact Kd.qbj HO_6.out (fun _ hk => hk.2)⟩, ⟨by repeat (first | (with_reducible first | exact HB.out | apply bQA | apply bQN | apply bQ1) | exact HB.out)⟩⟩
                ·rw [if_neg c29] at H
                 have c29b0 : (t123 == 1) = false := beq_eq_false_iff_ne.mpr c29
                 have c29b1 : (t123 != 1) = true := bne_iff_ne.mpr c29
                 (try (have c29b0z := c29b0; simp only [hl5_4] at c29b0z))
                 (try (have c29b1z := c29b1; simp only [hl5_4] at c29b1z))
                 have H' := Aq.mk H
                 clear H
                 have p122 : 0 ≤ (x11_4 : Int) := of_decide_eq_true (by first | (with_reducible assumption) | assumption)
                 have q122 : x11_4 < (x5_4.length : Int) := of_decide_eq_true (by first | (with_reducible assumption) | assumption)
                 obtain ⟨ad122, e122, hx122_0⟩ := Kd.at_int (Kd.qbi HO_5.out).2.2 x11_4 p122 q122
                 obtain rfl : (⟨go22, 0, none⟩ : Addr) = ad122 := (by injection e122)
                 (first | simp only [add_plain] at hx122_0 | simp only [add_at] at hx122_0 | simp only [Addr.add, Nat.zero_add] at hx122_0 | skip)
                 replace p122 := eq_true p122
                 replace q122 := eq_true q122
                 go_wp2_with (first | ((with_reducible refine gQc (f := 107) rfl ?_); refine qbz (some 59) rfl rfl Try.func107 (by kernel_rfl) rfl #[.int .i64 (rd x5_4 x11_4), .int .i64 x7_1] rfl (by (try simp only [List.map_toArray, List.map_cons, List.map_nil]); first | done | rfl | (simp only [List.length_drop, List.length_take]; rfl)) ?_; (with_reducible refine (qbb.calls (rd x5_4 x11_4) x7_1 t123 _ A28.out).mono ?_); rintro e w' ⟨rfl, ⟨nd, rfl⟩⟩; refine ⟨_, rfl, ?_⟩))
                 (try simp only [← hl5_4])
                 go_roundg k4
                 case measure => have := HK1.out; have := HK2.out; have := HJ7.out; have := HK4.out; omega
                 case rel => exact ⟨(x5_4), (wrap64 (x11_4 + 1)), (by first | rfl | (simp; done) | (simp [*]; done)), H', ⟨by have := HK1.out; have := HK2.out; have := HJ7.out; have := HK4.out; omega⟩, ⟨by (try simp only [hl5_4]); (with_reducible repeat (first | apply rA | apply rN | apply rD)); exact HO_5.out⟩, ⟨by (try simp only [hl5_4]); (with_reducible repeat (first | apply rA | apply rN | apply rD)); exact HO_6.out⟩, ⟨by repeat (first | (with_reducible first | exact HB.out | apply bQA | apply bQN | apply bQ1) | exact HB.out)⟩⟩
               ·rw [if_neg c27] at H
                exact absurd H (by simp)
              ·rw [if_neg c26] at H
               have c26b0 : decide (x11_4 < (x5_4.length : Int)) = false := decide_eq_false c26
               clear c26
               (try (have c26b0z := c26b0; simp only [hl5_4] at c26b0z))
               have H' := Aq.mk H
               clear H
               go_wp2
               go_loopg [12] k4 (fun kq v12 w' => ∃ (x6_5 : List Int) (x12_5 : Int), v12 = .int .i64 x12_5 ∧ Aq (qaa.l3 kq a0 x5_4 x6_5 x7_1 (rd x5_1 x8_2) x12_5 = some r) ∧ Aq (kq ≤ k4) ∧ Aq (Kd.R (Kd.int .i64) 2 w' w.heap.size (fun k_ => some k_ ≠ (u6 : Value).ownBlock) (.slice (some ⟨go22, 0, none⟩) x5_4.length co23) x5_4) ∧ Aq (Kd.R (Kd.int .i64) 2 w' w.heap.size (fun k_ => some k_ ≠ ((.slice (some ⟨go22, 0, none⟩) x5_4.length co23) : Value).ownBlock) u6 x6_5) ∧ Aq (Below w.heap.size w w'))
               case atStart => exact ⟨(x6_1), (0), (by first | rfl | (simp; done) | (simp [*]; done)), H', ⟨Nat.le_refl _⟩, ⟨by (try simp only [hl5_4]); (with_reducible repeat (first | apply rA | apply rN | apply rD)); exact HO_5.out⟩, ⟨by (try simp only [hl5_4]); (with_reducible repeat (first | apply rA | apply rN | apply rD)); exact HO_6.out⟩, ⟨by repeat (first | (with_reducible first | exact HB.out | apply bQA | apply bQN | apply bQ1) | exact HB.out)⟩⟩
               case round =>
                clear H'
                try clear c1
                try clear p1
                try clear q1
                try clear hx1
                try clear c2
                try clear p2
                try clear q2
                try clear hx2
                try clear hf2
                try clear p3
                try clear q3
                try clear hx3
                try clear hf3
                try clear c6
                try clear p6
                try clear c7
                try clear c7b0
                try clear c8
                try clear c9
                try clear c9b0
                try clear c10
                try clear p11
                try clear q11
                try clear hx11
                try clear c12
                try clear p12
                try clear q12
                try clear hx12
                try clear c13
                try clear c13b0
                try clear c14
                try clear c14b0
                try clear c16
                try clear c16b0
                try clear c16b1
                try clear c19
                try clear c19b0
                try clear c20
                try clear c20b0
                try clear c21
                try clear c21b0
                try clear p22
                try clear q22
                try clear hx22
                try clear hf22
                try clear c26
                try clear c26b0
                try clear c27
                try clear c27b0
                try clear c29
                try clear c29b0
                try clear c29b1
                try clear p30
                try clear q30
                try clear hx30
                try clear hf30
                try clear hx118_0
                try clear hx120_0
                try clear hx122_0
                try clear hx124_0
                try clear hx22_0
                try clear hx30_0
                try clear p1
                try clear p11
                try clear p118
                try clear p12
                try clear p120
                try clear p122
                try clear p124
                try clear p2
                try clear p22
                try clear p30
                try clear p6
                try clear q1
                try clear q11
                try clear q118
                try clear q12
                try clear q120
                try clear q122
                try clear q124
                try clear q2
                try clear q22
                try clear q30
                obtain ⟨x6_5, x12_5, rfl, HA, HK5, HO_5, HO_6, HB⟩ := hrel
                cases gk with
                | zero => exact absurd HA.out (by simp [qaa.l3])
                | succ k5 =>
                 have H := HA.out
                 clear HA
                 simp only [qaa.l3] at H
                 by_cases c33 : x12_5 < (x6_5.length : Int)
                 ·rw [if_pos c33] at H
                  have c33b0 : decide (x12_5 < (x6_5.length : Int)) = true := decide_eq_true c33
                  clear c33
                  (try (have c33b0z := c33b0; simp only [hl5_4] at c33b0z))
                  by_cases c34 : 0 ≤ x12_5
                  ·rw [if_pos c34] at H
                   have c34b0 : decide (0 ≤ x12_5) = true := decide_eq_true c34
                   clear c34
                   (try (have c34b0z := c34b0; simp only [hl5_4] at c34b0z))
                   replace H := Option.bind_eq_some_iff.mp H
                   obtain ⟨t127, A350, H⟩ := H
                   replace H : (if t127 = 1 then (qaa.l3 k5 a0 x5_4 (x6_5.set (x12_5 : Int).toNat (Go.bits .xor .i64 (rd x6_5 x12_5) (rd x5_1 x8_2))) x7_1 (rd x5_1 x8_2) (wrap64 (x12_5 + 1))) else (qaa.l3 k5 a0 x5_4 x6_5 x7_1 (rd x5_1 x8_2) (wrap64 (x12_5 + 1)))) = some r := H
                   have A35 := Aq.mk A350
                   clear A350
                   by_cases c36 : t127 = 1
                   ·rw [if_pos c36] at H
                    have c36b0 : (t127 == 1) = true := beq_iff_eq.mpr c36
                    have c36b1 : (t127 != 1) = false := bne_eq_false_iff_eq.mpr c36
                    clear c36
                    (try (have c36b0z := c36b0; simp only [hl5_4] at c36b0z))
                    (try (have c36b1z := c36b1; simp only [hl5_4] at c36b1z))
                    obtain ⟨y129, hy129⟩ : ∃ y_ : List Int, y_ = (x6_5.set (x12_5 : Int).toNat (Go.bits .xor .i64 (rd x6_5 x12_5) (rd x5_1 x8_2))) := ⟨_, rfl⟩
                    replace H : (qaa.l3 k5 a0 x5_4 y129 x7_1 (rd x5_1 x8_2) (wrap64 (x12_5 + 1))) = some r := by first | (rw [hy129]; with_reducible exact H) | (have H2_ := (Option.bind_some _ _).symm.trans H; rw [hy129]; with_reducible exact H2_) | (have H2_ := (Option.bind_some _ _).symm.trans H; with_reducible exact H2_) | with_reducible exact H | (rw [hy129]; exact H) | exact H
                    have Ny129 := Aq.mk hy129
                    clear hy129
                    have H' := Aq.mk H
                    clear H
                    obtain ⟨Ao38, co38, eo38⟩ := Kd.qbw HO_6.out
                    subst eo38
                    have p126 : 0 ≤ (x12_5 : Int) := of_decide_eq_true (by first | (with_reducible assumption) | assumption)
                    have q126 : x12_5 < (x6_5.length : Int) := of_decide_eq_true (by first | (with_reducible assumption) | assumption)
                    obtain ⟨ad126, e126, hx126_0⟩ := Kd.at_int (Kd.qbi HO_6.out).2.2 x12_5 p126 q126
                    cases e126
                    replace p126 := eq_true p126
                    replace q126 := eq_true q126
                    go_wp2_with (first | ((with_reducible refine gQc (f := 107) rfl ?_); refine qbz (some 79) rfl rfl Try.func107 (by kernel_rfl) rfl #[.int .i64 (rd x6_5 x12_5), .int .i64 x7_1] rfl (by (try simp only [List.map_toArray, List.map_cons, List.map_nil]); first | done | rfl | (simp only [List.length_drop, List.length_take]; rfl)) ?_; (with_reducible refine (qbb.calls (rd x6_5 x12_5) x7_1 t127 _ A35.out).mono ?_); rintro e w' ⟨rfl, ⟨nd, rfl⟩⟩; refine ⟨_, rfl, ?_⟩; (try (rw [drewN_self wr]; generalize hq_ : World.drewN wr _ = wr; have n0_ : Aq (Kd.R (Kd.int .i64) 2 wr w.heap.size (fun k_ => some k_ ≠ (.slice (some ad126) x6_5.length co38 : Value).ownBlock) (.slice (some ⟨go22, 0, none⟩) x5_4.length co23) x5_4) := ⟨by rw [← hq_]; exact (by (with_reducible repeat (first | apply rA | apply rN | apply rD)); exact HO_5.out)⟩; have n1_ : Aq (Kd.R (Kd.int .i64) 2 wr w.heap.size (fun k_ => some k_ ≠ (.slice (some ⟨go22, 0, none⟩) x5_4.length co23 : Value).ownBlock) (.slice (some ad126) x6_5.length co38) x6_5) := ⟨by rw [← hq_]; exact (by (with_reducible repeat (first | apply rA | apply rN | apply rD)); exact HO_6.out)⟩; have n2_ : Aq (Below w.heap.size w wr) := ⟨by rw [← hq_]; exact (by repeat (with_reducible first | exact HB.out | apply bQA | apply bQN | apply bQ1))⟩; clear HO_5 HO_6 HB hq_; have HO_5 := n0_; have HO_6 := n1_; have HB := n2_; clear n0_ n1_ n2_)); have p128 : 0 ≤ (x12_5 : Int) := of_decide_eq_true (by first | (with_reducible assumption) | assumption); have q128 : x12_5 < (x6_5.length : Int) := of_decide_eq_true (by first | (with_reducible assumption) | assumption); obtain ⟨ad128, e128, hx128_0⟩ := Kd.at_int (Kd.qbi HO_6.out).2.2 x12_5 p128 q128; obtain rfl : ad126 = ad128 := (by injection e128); replace p128 := eq_true p128; replace q128 := eq_true q128; have p37 : 0 ≤ (x12_5 : Int) := of_decide_eq_true (by first | (with_reducible assumption) | assumption); have q37 : (x12_5 : Int) < ((x6_5.length : Int) : Int) := of_decide_eq_true (by first | (with_reducible assumption) | assumption); obtain ⟨go37, co37, eo37, gb37, gl37, cl37, HG37⟩ := Kd.R_form HO_6.out (by omega); (first | cases eo37 | (injection eo37 with ea_ en_ ec_; (first | subst ea_ | (injection ea_ with ea_; subst ea_)); subst ec_; clear en_)); have GB37 := Aq.mk gb37; have GG37 := Aq.mk HG37; clear gb37 gl37 HG37; (first | simp only [add_plain] at hx126_0 | skip); (first | simp only [add_plain] at hx128_0 | skip); obtain ⟨hx37_0, hf37_0⟩ := Kd.R_celln 0 HO_6.out (x12_5 : Int) p37 q37; replace p37 := eq_true p37; replace q37 := eq_true q37; obtain ⟨hy39_, hz39_⟩ := Kd.R_celln 0 HO_6.out (x12_5 : Int) (of_decide_eq_true (by first | (with_reducible assumption) | assumption)) (of_decide_eq_true (by first | (with_reducible assumption) | assumption)); have HP39 := Kd.R_putg HO_6.out (x12_5 : Int) (Go.bits .xor .i64 (rd x6_5 x12_5) (rd x5_1 x8_2))) | ((with_reducible refine gate_store (t := 2) (p := 87) rfl ?_); refine store_event (t := 2) (p := 87) (v := ?vo_w40) (w1 := (wr.setCell ⟨go37, (x12_5 : Int).toNat, none⟩ (.int .i64 (Go.bits .xor .i64 (rd x6_5 x12_5) (rd x5_1 x8_2))))) ?hg ?ho ?hn ?hr ?_; (case ho => rfl); (case hg => rfl); (case hn => rfl); (case hr => first | (go_simp; done) | (go_simp; rfl)); intro w40 hw; have hg : wr.grownBy w40 (some go37) := (by rw [hw]; exact HP39.2); have hp_ : Kd.R (Kd.int .i64) 2 w40 w.heap.size (fun k_ => some k_ ≠ (.slice (some ⟨go22, 0, none⟩) x5_4.length co23 : Value).ownBlock) (.slice (some ⟨go37, 0, none⟩) x6_5.length co38) y129 := (by rw [hw, Ny129.out]; exact HP39.1); clear HP39; replace HO_5 := Aq.mk (Kd.R_after (v := (.slice (some ⟨go37, 0, none⟩) x6_5.length co38)) (v1 := (.slice (some ⟨go37, 0, none⟩) x6_5.length co38)) (ok := (fun _ => True)) (by (with_reducible repeat (first | apply rA | apply rN | apply rD)); exact Kd.qbj HO_5.out (fun _ hk => ⟨trivial, hk⟩)) hg (.inl rfl)); replace HO_6 := Aq.mk (hp_); replace HB := Aq.mk ((by rw [hw]; exact bQS (HB.out) GB37.out : Below w.heap.size w w40)); clear hg hw hp_))
                    go_roundg k5
                    case measure => have := HK1.out; have := HK2.out; have := HJ7.out; have := HK4.out; have := HK5.out; omega
                    case rel => exact ⟨(y129), (wrap64 (x12_5 + 1)), (by first | rfl | (simp; done) | (simp [*]; done)), H', ⟨by have := HK1.out; have := HK2.out; have := HJ7.out; have := HK4.out; have := HK5.out; omega⟩, ⟨by (try simp only [hl5_4]); (with_reducible repeat (first | apply rA | apply rN | apply rD)); exact Kd.qbj HO_5.out (fun _ hk => hk.2)⟩, ⟨by (try simp only [hl5_4]); (with_reducible repeat (first | apply rA | apply rN | apply rD)); exact HO_6.out⟩, ⟨by repeat (first | (with_reducible first | exact HB.out | apply bQA | apply bQN | apply bQ1) | exact HB.out)⟩⟩
                   ·rw [if_neg c36] at H
                    have c36b0 : (t127 == 1) = false := beq_eq_false_iff_ne.mpr c36
                    have c36b1 : (t127 != 1) = true := bne_iff_ne.mpr c36
                    (try (have c36b0z := c36b0; simp only [hl5_4] at c36b0z))
                    (try (have c36b1z := c36b1; simp only [hl5_4] at c36b1z))
                    have H' := Aq.mk H
                    clear H
                    obtain ⟨Ao41, co41, eo41⟩ := Kd.qbw HO_6.out
                    subst eo41
                    have p126 : 0 ≤ (x12_5 : Int) := of_decide_eq_true (by first | (with_reducible assumption) | assumption)
                    have q126 : x12_5 < (x6_5.length : Int) := of_decide_eq_true (by first | (with_reducible assumption) | assumption)
                    obtain ⟨ad126, e126, hx126_0⟩ := Kd.at_int (Kd.qbi HO_6.out).2.2 x12_5 p126 q126
                    cases e126
                    replace p126 := eq_true p126
                    replace q126 := eq_true q126
                    go_wp2_with (first | ((with_reducible refine gQc (f := 107) rfl ?_); refine qbz (some 79) rfl rfl Try.func107 (by kernel_rfl) rfl #[.int .i64 (rd x6_5 x12_5), .int .i64 x7_1] rfl (by (try simp only [List.map_toArray, List.map_cons, List.map_nil]); first | done | rfl | (simp only [List.length_drop, List.length_take]; rfl)) ?_; (with_reducible refine (qbb.calls (rd x6_5 x12_5) x7_1 t127 _ A35.out).mono ?_); rintro e w' ⟨rfl, ⟨nd, rfl⟩⟩; refine ⟨_, rfl, ?_⟩))
                    go_roundg k5
                    case measure => have := HK1.out; have := HK2.out; have := HJ7.out; have := HK4.out; have := HK5.out; omega
                    case rel => exact ⟨(x6_5), (wrap64 (x12_5 + 1)), (by first | rfl | (simp; done) | (simp [*]; done)), H', ⟨by have := HK1.out; have := HK2.out; have := HJ7.out; have := HK4.out; have := HK5.out; omega⟩, ⟨by (try simp only [hl5_4]); (with_reducible repeat (first | apply rA | apply rN | apply rD)); exact HO_5.out⟩, ⟨by (try simp only [hl5_4]); (with_reducible repeat (first | apply rA | apply rN | apply rD)); exact HO_6.out⟩, ⟨by repeat (first | (with_reducible first | exact HB.out | apply bQA | apply bQN | apply bQ1) | exact HB.out)⟩⟩
                  ·rw [if_neg c34] at H
                   exact absurd H (by simp)
                 ·rw [if_neg c33] at H
                  have c33b0 : decide (x12_5 < (x6_5.length : Int)) = false := decide_eq_false c33
                  clear c33
                  (try (have c33b0z := c33b0; simp only [hl5_4] at c33b0z))
                  by_cases c42 : x6_5.length < 17592186044416
                  ·rw [if_pos c42] at H
                   have LMc42 := Aq.mk c42
                   clear c42
                   obtain ⟨y130, hy130⟩ : ∃ y_ : List Int, y_ = (x6_5 ++ [(rd x5_1 x8_2)]) := ⟨_, rfl⟩
                   replace H : (qaa.l0 k5 a0 x5_4 y130 (wrap64 (x7_1 + 1))) = some r := by first | (rw [hy130]; with_reducible exact H) | (have H2_ := (Option.bind_some _ _).symm.trans H; rw [hy130]; with_reducible exact H2_) | (have H2_ := (Option.bind_some _ _).symm.trans H; with_reducible exact H2_) | with_reducible exact H | (rw [hy130]; exact H) | exact H
                   have Ny130 := Aq.mk hy130
                   clear hy130
                   have H' := Aq.mk H
                   clear H
                   obtain ⟨Ao43, co43, eo43⟩ := Kd.qbw HO_6.out
                   subst eo43
                   go_wp2_with (first | ((with_reducible refine gate_builtin (b := .append) (xs := #[.tmp 88, .tmp 90]) rfl ?_); at_builtin; refine Kd.R_append (Kd.int .i64) (w0 := w) w.heap.size rfl (.tmp 88) (.tmp 90) 22 2 (.int .i64 0) 8 rfl Try.underlying22 info2 rfl (by decide) (by omega) (.slice Ao43 x6_5.length co43) x6_5 (rd x5_1 x8_2) [.int .i64 (rd x5_1 x8_2)] (fun k_ => some k_ ≠ (.slice (some ⟨go22, 0, none⟩) x5_4.length co23 : Value).ownBlock) (fun _ => False) rfl rfl ?aP (fun _ hk => hk.elim) ?aF ?aO ?aB ?aS ?aL ?_; (case aP => exact rfl); (case aB => exact (by repeat (with_reducible first | exact HB.out | apply bQA | apply bQN | apply bQ1))); (case aF => exact (fun k_ hk => Kd.fresh' (Kd.R_lt (by (with_reducible repeat (first | apply rA | apply rN | apply rD)); exact HO_5.out)) k_ hk)); (case aO => exact (by (with_reducible repeat (first | apply rA | apply rN | apply rD)); exact HO_6.out)); (case aS => exact (bQZ (by repeat (with_reducible first | exact HB.out | apply bQA | apply bQN | apply bQ1)))); (case aL => have := LMc42.out; omega); intro v131 w44 ho hb hg hat; rw [← Ny130.out] at ho; replace HO_5 := Aq.mk (Kd.R_after (ok := (fun _ => True)) (by (with_reducible repeat (first | apply rA | apply rN | apply rD)); exact Kd.qbj HO_5.out (fun _ hk => ⟨trivial, hk⟩)) hg hat); replace HB := Aq.mk (hb); have HO132 := Aq.mk (ho); clear HO_6; clear ho hb hg hat))
                   (try simp only [← hl5_4])
                   go_roundg k5
                   case measure => have := HK1.out; have := HK2.out; have := HJ7.out; have := HK4.out; have := HK5.out; omega
                   case rel => exact ⟨(x5_4), (y130), (wrap64 (x7_1 + 1)), (by first | rfl | (simp; done) | (simp [*]; done)), H', ⟨by have := HK1.out; have := HK2.out; have := HJ7.out; have := HK4.out; have := HK5.out; omega⟩, ⟨by (try simp only [hl5_4]); (with_reducible repeat (first | apply rA | apply rN | apply rD)); exact Kd.qbj HO_5.out (fun _ hk => hk.2)⟩, ⟨by (try simp only [hl5_4]); (with_reducible repeat (first | apply rA | apply rN | apply rD)); exact HO132.out⟩, ⟨by repeat (first | (with_reducible first | exact HB.out | apply bQA | apply bQN | apply bQ1) | exact HB.out)⟩⟩
                  ·rw [if_neg c42] at H
                   exact absurd H (by simp)
           ·rw [if_neg c21] at H
            exact absurd H (by simp)
          ·rw [if_neg c20] at H
           exact absurd H (by simp)
   ·rw [if_neg c7] at H
    have c7b0 : decide (x7_1 < a0) = false := decide_eq_false c7
    clear c7
    obtain rfl := Option.some.inj H
    go_wp2
    go_ret
    exact ⟨_, by first | rfl | (simp [errW_none, errW_some] <;> rfl) | (simp [*, errW_none, errW_some] <;> rfl), by (with_reducible repeat (first | apply rA | apply rN | apply rD)); exact Kd.qbj HO_6.out (fun _ hk => trivial), by repeat (first | (with_reducible first | exact HB.out | apply bQA | apply bQN | apply bQ1) | exact HB.out)⟩
def qbc.f (a0 : Int) (a1 : Int) (a2 : Int) : Option (Bool) := if a0 ≥ a1 then (some (decide (a0 ≤ a2))) else (some false)
set_option maxHeartbeats 8000000 in
set_option maxRecDepth 100000 in
theorem qbc.calls (a0 : Int) (a1 : Int) (a2 : Int) (r : Bool) (w : World) (h : qbc.f a0 a1 a2 = some r) :
 Calls Try.prog 81 #[.int .i64 a0, .int .i64 a1, .int .i64 a2] w fun e w' => e = .returned (.bool r) ∧ Dq w w' := by
 have H : (if a0 ≥ a1 then (some (decide (a0 ≤ a2))) else (some false)) = some r := h
 clear h
 by_cases c4 : a0 ≥ a1
 ·rw [if_pos c4] at H
  have c4b0 : decide (a1 ≤ a0) = true := decide_eq_true c4
  clear c4
  obtain rfl := Option.some.inj H
  go_enter Try.func81, Try.ntmps81
  go_wp2
  go_ret
  exact ⟨by first | rfl | (simp; done) | (simp [*]; done), by repeat (first | exact Dq.refl _ | apply Dq.step)⟩
 ·rw [if_neg c4] at H
  have c4b0 : decide (a1 ≤ a0) = false := decide_eq_false c4
  clear c4
  obtain rfl := Option.some.inj H
  go_enter Try.func81, Try.ntmps81
  go_wp2
  go_ret
  exact ⟨by first | rfl | (simp; done) | (simp [*]; done), by repeat (first | exact Dq.refl _ | apply Dq.step)⟩
end Go.Proofs.Ytbaicdgkpnbipaa.P
