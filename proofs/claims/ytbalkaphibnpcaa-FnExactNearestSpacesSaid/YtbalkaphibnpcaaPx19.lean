/- Functions of the program and what they tell, as the printing program wrote it. -/
import Derived.Test.YtbalkaphibnpcaaPx0
import Derived.Test.YtbalkaphibnpcaaPx2
import Derived.Test.YtbalkaphibnpcaaPx18
namespace Go.Proofs.Ytbalkaphibnpcaa.P
open Go.Shelf Go.RowKit Go.Proofs.YtbalkaphibnpcaaW.PrintWords Go.Proofs.YtbalkaphibnpcaaW.PrintLast Go.Proofs.YtbalkaphibnpcaaW.PrintMore
attribute [local go_sem] max2_int min2_int max_two min_two max_three min_three max_four min_four
set_option linter.unusedVariables false
set_option linter.unusedSimpArgs false
set_option maxHeartbeats 8000000
set_option maxRecDepth 100000
mutual
def spec_l02Echelon.l0 : Nat → Int → List Int → List Int → Int → Option (List Int)
  | 0, _, _, _, _ => none
  | k + 1, x0, x5, x6, x7 => if x7 < x0 then (spec_l02Echelon.l1 k x0 x5 x6 x7 (-1) 0) else (some x6)
def spec_l02Echelon.l1 : Nat → Int → List Int → List Int → Int → Int → Int → Option (List Int)
  | 0, _, _, _, _, _, _ => none
  | k + 1, x0, x5, x6, x7, x8, x9 => if x9 < (x5.length : Int) then (spec_l02Echelon.j2 k x0 x5 x6 x7 x8 x9 (decide (x8 < 0))) else (spec_l02Echelon.j2 k x0 x5 x6 x7 x8 x9 false)
def spec_l02Echelon.j2 : Nat → Int → List Int → List Int → Int → Int → Int → Bool → Option (List Int)
  | 0, _, _, _, _, _, _, _ => none
  | k + 1, x0, x5, x6, x7, x8, x9, x28 => if x28 = true then (if 0 ≤ x9 then (if x9 < (x5.length : Int) then ((spec_l02Bit.f (rd x5 x9) x7).bind fun t544 => (if t544 = 1 then (spec_l02Echelon.l1 k x0 x5 x6 x7 x9 (wrap64 (x9 + 1))) else (spec_l02Echelon.l1 k x0 x5 x6 x7 x8 (wrap64 (x9 + 1))))) else (none)) else (none)) else (if x8 < 0 then (spec_l02Echelon.l0 k x0 x5 x6 (wrap64 (x7 + 1))) else (if 0 ≤ x8 then (if x8 < (x5.length : Int) then (spec_l02Echelon.l2 k x0 (x5.set (x8 : Int).toNat 0) x6 x7 (rd x5 x8) 0) else (none)) else (none)))
def spec_l02Echelon.l2 : Nat → Int → List Int → List Int → Int → Int → Int → Option (List Int)
  | 0, _, _, _, _, _, _ => none
  | k + 1, x0, x5, x6, x7, x10, x11 => if x11 < (x5.length : Int) then (if 0 ≤ x11 then ((spec_l02Bit.f (rd x5 x11) x7).bind fun t548 => (if t548 = 1 then (spec_l02Echelon.l2 k x0 (x5.set (x11 : Int).toNat (Go.bits .xor .i64 (rd x5 x11) x10)) x6 x7 x10 (wrap64 (x11 + 1))) else (spec_l02Echelon.l2 k x0 x5 x6 x7 x10 (wrap64 (x11 + 1))))) else (none)) else (spec_l02Echelon.l3 k x0 x5 x6 x7 x10 0)
def spec_l02Echelon.l3 : Nat → Int → List Int → List Int → Int → Int → Int → Option (List Int)
  | 0, _, _, _, _, _, _ => none
  | k + 1, x0, x5, x6, x7, x10, x12 => if x12 < (x6.length : Int) then (if 0 ≤ x12 then ((spec_l02Bit.f (rd x6 x12) x7).bind fun t552 => (if t552 = 1 then (spec_l02Echelon.l3 k x0 x5 (x6.set (x12 : Int).toNat (Go.bits .xor .i64 (rd x6 x12) x10)) x7 x10 (wrap64 (x12 + 1))) else (spec_l02Echelon.l3 k x0 x5 x6 x7 x10 (wrap64 (x12 + 1))))) else (none)) else (if x6.length < 17592186044416 then (spec_l02Echelon.l0 k x0 x5 (x6 ++ [x10]) (wrap64 (x7 + 1))) else (none))
end
def spec_l02Echelon.f (k : Nat) (a0 : Int) (l1 : List Int) : Option (List Int) := (spec_l00Own.f l1).bind fun t537 => (spec_l02Echelon.l0 k a0 t537 (([] : List Int)) 0)
theorem spec_l02Echelon.mono_l : ∀ k, (∀ y0 y1 y2 y3, LeO (spec_l02Echelon.l0 k y0 y1 y2 y3) (spec_l02Echelon.l0 (k + 1) y0 y1 y2 y3)) ∧ (∀ y0 y1 y2 y3 y4 y5, LeO (spec_l02Echelon.l1 k y0 y1 y2 y3 y4 y5) (spec_l02Echelon.l1 (k + 1) y0 y1 y2 y3 y4 y5)) ∧ (∀ y0 y1 y2 y3 y4 y5 y6, LeO (spec_l02Echelon.j2 k y0 y1 y2 y3 y4 y5 y6) (spec_l02Echelon.j2 (k + 1) y0 y1 y2 y3 y4 y5 y6)) ∧ (∀ y0 y1 y2 y3 y4 y5, LeO (spec_l02Echelon.l2 k y0 y1 y2 y3 y4 y5) (spec_l02Echelon.l2 (k + 1) y0 y1 y2 y3 y4 y5)) ∧ (∀ y0 y1 y2 y3 y4 y5, LeO (spec_l02Echelon.l3 k y0 y1 y2 y3 y4 y5) (spec_l02Echelon.l3 (k + 1) y0 y1 y2 y3 y4 y5))
 | 0 => ⟨fun _ _ _ _ r h => by simp [spec_l02Echelon.l0] at h, fun _ _ _ _ _ _ r h => by simp [spec_l02Echelon.l1] at h, fun _ _ _ _ _ _ _ r h => by simp [spec_l02Echelon.j2] at h, fun _ _ _ _ _ _ r h => by simp [spec_l02Echelon.l2] at h, fun _ _ _ _ _ _ r h => by simp [spec_l02Echelon.l3] at h⟩
 | k + 1 => by
  obtain ⟨ih0, ih1, ih2, ih3, ih4⟩ := spec_l02Echelon.mono_l k
  refine ⟨?_, ?_, ?_, ?_, ?_⟩ <;> intros <;> first | unfold spec_l02Echelon.l0 | unfold spec_l02Echelon.l1 | unfold spec_l02Echelon.j2 | unfold spec_l02Echelon.l2 | unfold spec_l02Echelon.l3
  all_goals repeat' first
   | (with_reducible first | apply ih0 | apply ih1 | apply ih2 | apply ih3 | apply ih4 | exact LeO.refl _ | exact LeO.none _ | refine LeO.ite ?_ ?_ | refine LeO.bind ?_ (fun _ => ?_))
   | exact LeO.none _
   | refine LeO.ite ?_ ?_
   | refine LeO.bind ?_ (fun _ => ?_)
theorem spec_l02Echelon.mono : ∀ a0 a1 k, LeO (spec_l02Echelon.f k a0 a1) (spec_l02Echelon.f (k + 1) a0 a1) := by
 intro a0 a1 k
 obtain ⟨ih0, ih1, ih2, ih3, ih4⟩ := spec_l02Echelon.mono_l k
 unfold spec_l02Echelon.f
 repeat' first
  | (with_reducible first | apply ih0 | apply ih1 | apply ih2 | apply ih3 | apply ih4 | exact LeO.refl _ | exact LeO.none _ | refine LeO.ite ?_ ?_ | refine LeO.bind ?_ (fun _ => ?_))
  | exact LeO.none _
  | refine LeO.ite ?_ ?_
  | refine LeO.bind ?_ (fun _ => ?_)
theorem spec_l02Echelon.calls (k : Nat) (a0 : Int) (A1 : Option Addr) (c1 : Nat) (l1 : List Int) (r : List Int) (w : World) (hr1 : Kd.C (Kd.int .i64) w A1 l1.length l1) (hc1 : l1.length ≤ c1) (h : spec_l02Echelon.f k a0 l1 = some r) :
 Calls Try.prog 83 #[.int .i64 a0, .slice A1 l1.length c1] w fun e w' => ∃ v0_ : Value, e = .returned (v0_) ∧ Kd.R (Kd.int .i64) 2 w' w.heap.size (fun _ => True) v0_ r ∧ Below w.heap.size w w' := by
 have HR1 := Aq.mk hr1
 have HC1 := Aq.mk hc1
 clear hr1 hc1
 have HB := Aq.mk (Below.refl w.heap.size w)
 have H : ((spec_l00Own.f l1).bind fun t537 => (spec_l02Echelon.l0 k a0 t537 (([] : List Int)) 0)) = some r := h
 clear h
 obtain ⟨t537, A3, H⟩ := qBd H
 obtain ⟨y540, hy540⟩ : ∃ y_ : List Int, y_ = (([] : List Int)) := ⟨_, rfl⟩
 replace H : (spec_l02Echelon.l0 k a0 t537 y540 0) = some r := by first | (rw [hy540]; with_reducible exact H) | (have H2_ := (Option.bind_some _ _).symm.trans H; rw [hy540]; with_reducible exact H2_) | (have H2_ := (Option.bind_some _ _).symm.trans H; with_reducible exact H2_) | with_reducible exact H | (rw [hy540]; exact H) | exact H
 have Ny540 := Aq.mk hy540
 clear hy540
 replace H' := Aq.mk H
 clear H
 go_enter Try.func83, Try.ntmps83
 go_wp2_with (first | ((with_reducible refine gQc (f := 64) rfl ?_); refine goesL_ (some 14) rfl rfl Try.func64 (by kernel_rfl) rfl #[.slice A1 l1.length c1] rfl tL ?_; (with_reducible refine (spec_l00Own.calls _ _ l1 t537 _ ?s1 ?s2 A3.out).mono ?_); (case s1 => exact tC HR1.out); (case s2 => exact HC1.out); rintro e w4 ⟨v538, rfl, ho0, hb⟩; refine ⟨_, rfl, ?_⟩; refine qM2 (Kd.R_lower ho0 (bQZ tB)) (bQT tB hb) ?_; clear HB; intro HO539 HB; (try clear hb); (try clear hb2); (try clear hk); (try clear hi); (try clear ho0)) | ((with_reducible refine gQd (N := 15) rfl ?_); refine Kd.R_lit (Kd.int .i64) _ 2 ?hg (N := 15) ?hd (xs := ([] : List Int)) (inner := []) (ok := fun _ => True) (okp := fun _ => True) ?hr ?hp (fun _ hk => hk) trivial (Below.refl _ _) (Nat.le_refl _) (by simp) ?_; (case hd => rfl); (case hg => rfl); (case hr => exact tH); (case hp => exact (Reps.none _ _)); intro v541 w5 ho6 hb hg_ hnew_; clear hg_ hnew_; (first | rw [← Ny540.out] at ho6 | (simp only [Int.reduceToNat] at ho6; rw [← Ny540.out] at ho6)); refine qM3 (Kd.R_elder' (tR HO539.out) (Kd.R_base ho6) hb) (Kd.R_lower (Kd.R_new' ho6 (Kd.R_lt (tR HO539.out))) (bQZ tB)) (bQT tB hb) ?_; clear HO539 HB; intro HO539 HO542 HB; clear hb ho6))
 go_loopg [6, 7] k (fun kq v6 v7 w' => ∃ (x5_1 : List Int) (x6_1 : List Int) (x7_1 : Int), v7 = .int .i64 x7_1 ∧ Aq (spec_l02Echelon.l0 kq a0 x5_1 x6_1 x7_1 = some r) ∧ Aq (kq ≤ k) ∧ Aq (Kd.R (Kd.int .i64) 2 w' w.heap.size (fun k_ => some k_ ≠ (v6 : Value).ownBlock) v538 x5_1) ∧ Aq (Kd.R (Kd.int .i64) 2 w' w.heap.size (fun k_ => some k_ ≠ (v538 : Value).ownBlock) v6 x6_1) ∧ Aq (Below w.heap.size w w'))
 case atStart => exact ⟨(t537), (y540), (0), tS, H', ⟨Nat.le_refl _⟩, ⟨by (with_reducible repeat (first | apply Kd.RqA | apply Kd.RqN | apply Kd.RqD)); exact Kd.R_mono HO539.out (fun _ hk => hk.2)⟩, ⟨by (with_reducible repeat (first | apply Kd.RqA | apply Kd.RqN | apply Kd.RqD)); exact Kd.R_mono HO542.out (fun _ hk => hk.2)⟩, ⟨tB⟩⟩
 clear H'
 try clear c1
 obtain ⟨x5_1, x6_1, x7_1, rfl, HA, HK1, HO_5, HO_6, HB⟩ := hrel
 cases gk with
 | zero => exact absurd HA.out (by simp [spec_l02Echelon.l0])
 | succ k1 =>
  have H := HA.out
  clear HA
  simp only [spec_l02Echelon.l0] at H
  by_cases c7 : x7_1 < a0
  rotate_left
  ·rw [if_neg c7] at H
   have c7b0 := decide_eq_false c7
   clear c7
   obtain rfl := Option.some.inj H
   go_wp2
   go_ret
   exact ⟨_, tE, by (with_reducible repeat (first | apply Kd.RqA | apply Kd.RqN | apply Kd.RqD)); exact Kd.R_mono HO_6.out (fun _ hk => trivial), tB⟩
  rw [if_pos c7] at H
  have c7b0 := decide_eq_true c7
  clear c7
  replace H' := Aq.mk H
  clear H
  go_wp2
  go_loopg [8, 9] k1 (fun kq v8 v9 w' => ∃ (x8_2 : Int) (x9_2 : Int), v8 = .int .i64 x8_2 ∧ v9 = .int .i64 x9_2 ∧ Aq (spec_l02Echelon.l1 kq a0 x5_1 x6_1 x7_1 x8_2 x9_2 = some r) ∧ Aq (kq ≤ k1) ∧ Aq (Kd.R (Kd.int .i64) 2 w' w.heap.size (fun k_ => some k_ ≠ (u6 : Value).ownBlock) v538 x5_1) ∧ Aq (Kd.R (Kd.int .i64) 2 w' w.heap.size (fun k_ => some k_ ≠ (v538 : Value).ownBlock) u6 x6_1) ∧ Aq (Below w.heap.size w w'))
  case atStart => exact ⟨((-1)), (0), tS, tS, H', ⟨Nat.le_refl _⟩, ⟨tR HO_5.out⟩, ⟨tR HO_6.out⟩, ⟨tB⟩⟩
  clear H'
  try clear c1
  try clear c7
  try clear c7b0
  obtain ⟨x8_2, x9_2, rfl, rfl, HA, HK2, HO_5, HO_6, HB⟩ := hrel
  cases gk with
  | zero => exact absurd HA.out (by simp [spec_l02Echelon.l1])
  | succ k2 =>
   have H := HA.out
   clear HA
   simp only [spec_l02Echelon.l1] at H
   have HC8 := Aq.mk H
   clear H
   go_upto_region 8 with (fail)
   go_cut [28] (fun v28 wc => ∃ (kq : Nat) (x28_7 : Bool), v28 = .bool x28_7 ∧ Aq (spec_l02Echelon.j2 kq a0 x5_1 x6_1 x7_1 x8_2 x9_2 x28_7 = some r) ∧ Aq (kq ≤ k2) ∧ Aq (Kd.R (Kd.int .i64) 2 wc w.heap.size (fun k_ => some k_ ≠ (u6 : Value).ownBlock) v538 x5_1) ∧ Aq (Kd.R (Kd.int .i64) 2 wc w.heap.size (fun k_ => some k_ ≠ (v538 : Value).ownBlock) u6 x6_1) ∧ Aq (Below w.heap.size w wc))
   case first =>
    have H := HC8.out
    clear HC8
    by_cases c9 : x9_2 < (x5_1.length : Int)
    ·rw [if_pos c9] at H
     have c9b0 := decide_eq_true c9
     clear c9
     (first | rw [c9b0] | (simp only [i64_w, i32_w]; rw [c9b0]) | skip)
     replace H' := Aq.mk H
     clear H
     obtain ⟨Ao10, co10, eo10⟩ := Kd.R_slice HO_5.out
     subst eo10
     go_wp2
     go_meet
     case rel => exact ⟨_, (decide (x8_2 < 0)), tS, H', ⟨by have := HK1.out; have := HK2.out; first | omega | exact Nat.le_refl _⟩, ⟨tR HO_5.out⟩, ⟨tR HO_6.out⟩, ⟨tB⟩⟩
    rw [if_neg c9] at H
    have c9b0 := decide_eq_false c9
    clear c9
    (first | rw [c9b0] | (simp only [i64_w, i32_w]; rw [c9b0]) | skip)
    replace H' := Aq.mk H
    clear H
    obtain ⟨Ao11, co11, eo11⟩ := Kd.R_slice HO_5.out
    subst eo11
    go_wp2
    go_meet
    case rel => exact ⟨_, (false), tS, H', ⟨by have := HK1.out; have := HK2.out; first | omega | exact Nat.le_refl _⟩, ⟨tR HO_5.out⟩, ⟨tR HO_6.out⟩, ⟨tB⟩⟩
   clear HC8
   try clear c1
   try clear c7
   try clear c7b0
   try clear c9
   try clear c9b0
   obtain ⟨kq, x28_7, rfl, HA, HJ7, HO_5, HO_6, HB⟩ := hcut
   cases kq with
   | zero => exact absurd HA.out (by simp [spec_l02Echelon.j2])
   | succ kj7 =>
    have H := HA.out
    clear HA
    simp only [spec_l02Echelon.j2] at H
    by_cases c12 : x28_7 = true
    ·subst c12
     rw [if_pos rfl] at H
     by_cases c13 : 0 ≤ x9_2
     rotate_left
     ·rw [if_neg c13] at H
      exact absurd H (by simp)
     rw [if_pos c13] at H
     have c13b0 := decide_eq_true c13
     clear c13
     by_cases c14 : x9_2 < (x5_1.length : Int)
     rotate_left
     ·rw [if_neg c14] at H
      exact absurd H (by simp)
     rw [if_pos c14] at H
     have c14b0 := decide_eq_true c14
     clear c14
     obtain ⟨t544, A15, H⟩ := qBd H
     by_cases c16 : t544 = 1
     ·rw [if_pos c16] at H
      have c16b0 := beq_iff_eq.mpr c16
      have c16b1 := bne_eq_false_iff_eq.mpr c16
      clear c16
      replace H' := Aq.mk H
      clear H
      obtain ⟨Ao17, co17, eo17⟩ := Kd.R_slice HO_5.out
      subst eo17
      have p543 : 0 ≤ (x9_2 : Int) := of_decide_eq_true tA
      have q543 : x9_2 < (x5_1.length : Int) := of_decide_eq_true tA
      obtain ⟨ad543, e543, hx543_0⟩ := Kd.at_int (Kd.R_reads' HO_5.out).2.2 x9_2 p543 q543
      cases e543
      replace p543 := eq_true p543
      replace q543 := eq_true q543
      go_wp2_with (first | ((with_reducible refine gQc (f := 110) rfl ?_); refine goesL_ (some 36) rfl rfl Try.func110 (by kernel_rfl) rfl #[.int .i64 (rd x5_1 x9_2), .int .i64 x7_1] rfl tL ?_; (with_reducible refine (spec_l02Bit.calls (rd x5_1 x9_2) x7_1 t544 _ A15.out).mono ?_); rintro e w' ⟨rfl, ⟨nd, rfl⟩⟩; refine ⟨_, rfl, ?_⟩))
      go_roundg kj7
      case measure => have := HK1.out; have := HK2.out; have := HJ7.out; omega
      case rel => exact ⟨(x9_2), (wrap64 (x9_2 + 1)), tS, tS, H', ⟨by have := HK1.out; have := HK2.out; have := HJ7.out; omega⟩, ⟨tR HO_5.out⟩, ⟨tR HO_6.out⟩, ⟨tB⟩⟩
     rw [if_neg c16] at H
     have c16b0 := beq_eq_false_iff_ne.mpr c16
     have c16b1 := bne_iff_ne.mpr c16
     replace H' := Aq.mk H
     clear H
     obtain ⟨Ao18, co18, eo18⟩ := Kd.R_slice HO_5.out
     subst eo18
     have p543 : 0 ≤ (x9_2 : Int) := of_decide_eq_true tA
     have q543 : x9_2 < (x5_1.length : Int) := of_decide_eq_true tA
     obtain ⟨ad543, e543, hx543_0⟩ := Kd.at_int (Kd.R_reads' HO_5.out).2.2 x9_2 p543 q543
     cases e543
     replace p543 := eq_true p543
     replace q543 := eq_true q543
     go_wp2_with (first | ((with_reducible refine gQc (f := 110) rfl ?_); refine goesL_ (some 36) rfl rfl Try.func110 (by kernel_rfl) rfl #[.int .i64 (rd x5_1 x9_2), .int .i64 x7_1] rfl tL ?_; (with_reducible refine (spec_l02Bit.calls (rd x5_1 x9_2) x7_1 t544 _ A15.out).mono ?_); rintro e w' ⟨rfl, ⟨nd, rfl⟩⟩; refine ⟨_, rfl, ?_⟩))
     go_roundg kj7
     case measure => have := HK1.out; have := HK2.out; have := HJ7.out; omega
     case rel => exact ⟨(x8_2), (wrap64 (x9_2 + 1)), tS, tS, H', ⟨by have := HK1.out; have := HK2.out; have := HJ7.out; omega⟩, ⟨tR HO_5.out⟩, ⟨tR HO_6.out⟩, ⟨tB⟩⟩
    replace c12 := Bool.eq_false_iff.mpr c12
    subst c12
    rw [if_neg (show ¬ (false = true) by decide)] at H
    by_cases c19 : x8_2 < 0
    ·rw [if_pos c19] at H
     have c19b0 := decide_eq_true c19
     clear c19
     replace H' := Aq.mk H
     clear H
     go_wp2
     go_roundg kj7
     case measure => have := HK1.out; have := HK2.out; have := HJ7.out; omega
     case rel => exact ⟨(x5_1), (x6_1), (wrap64 (x7_1 + 1)), tS, H', ⟨by have := HK1.out; have := HK2.out; have := HJ7.out; omega⟩, ⟨tR HO_5.out⟩, ⟨tR HO_6.out⟩, ⟨tB⟩⟩
    rw [if_neg c19] at H
    have c19b0 := decide_eq_false c19
    clear c19
    by_cases c20 : 0 ≤ x8_2
    rotate_left
    ·rw [if_neg c20] at H
     exact absurd H (by simp)
    rw [if_pos c20] at H
    have c20b0 := decide_eq_true c20
    clear c20
    by_cases c21 : x8_2 < (x5_1.length : Int)
    rotate_left
    ·rw [if_neg c21] at H
     exact absurd H (by simp)
    rw [if_pos c21] at H
    have c21b0 := decide_eq_true c21
    clear c21
    obtain ⟨y546, hy546⟩ : ∃ y_ : List Int, y_ = (x5_1.set (x8_2 : Int).toNat 0) := ⟨_, rfl⟩
    replace H : (spec_l02Echelon.l2 kj7 a0 y546 x6_1 x7_1 (rd x5_1 x8_2) 0) = some r := by first | (rw [hy546]; with_reducible exact H) | (have H2_ := (Option.bind_some _ _).symm.trans H; rw [hy546]; with_reducible exact H2_) | (have H2_ := (Option.bind_some _ _).symm.trans H; with_reducible exact H2_) | with_reducible exact H | (rw [hy546]; exact H) | exact H
    have Ny546 := Aq.mk hy546
    clear hy546
    replace H' := Aq.mk H
    clear H
    obtain ⟨Ao23, co23, eo23⟩ := Kd.R_slice HO_5.out
    subst eo23
    have p545 : 0 ≤ (x8_2 : Int) := of_decide_eq_true tA
    have q545 : x8_2 < (x5_1.length : Int) := of_decide_eq_true tA
    obtain ⟨ad545, e545, hx545_0⟩ := Kd.at_int (Kd.R_reads' HO_5.out).2.2 x8_2 p545 q545
    cases e545
    replace p545 := eq_true p545
    replace q545 := eq_true q545
    have p22 : 0 ≤ (x8_2 : Int) := of_decide_eq_true tA
    have q22 : (x8_2 : Int) < ((x5_1.length : Int) : Int) := of_decide_eq_true tA
    obtain ⟨go22, co22, eo22, gb22, gl22, cl22, HG22⟩ := Kd.R_form HO_5.out (by omega)
    (first | cases eo22 | (injection eo22 with ea_ en_ ec_; (first | subst ea_ | (injection ea_ with ea_; subst ea_)); subst ec_; clear en_))
    have GB22 := Aq.mk gb22
    have GG22 := Aq.mk HG22
    clear gb22 gl22 HG22
    (first | simp only [add_plain] at hx545_0 | skip)
    obtain ⟨hx22_0, hf22_0⟩ := Kd.R_celln 0 HO_5.out (x8_2 : Int) p22 q22
    replace p22 := eq_true p22
    replace q22 := eq_true q22
    have HP24 := Kd.R_putg HO_5.out (x8_2 : Int) 0
    go_wp2_with (first | ((with_reducible refine gate_store (t := 2) (p := 47) rfl ?_); refine store_event (t := 2) (p := 47) (v := ?vo_w25) (w1 := (wc.setCell ⟨go22, (x8_2 : Int).toNat, none⟩ (.int .i64 0))) ?hg ?ho ?hn ?hr ?_; (case ho => rfl); (case hg => rfl); (case hn => rfl); (case hr => exact tH); intro w25 hw; have hg : wc.grownBy w25 (some go22) := (by rw [hw]; exact HP24.2); have hp_ : Kd.R (Kd.int .i64) 2 w25 w.heap.size (fun k_ => some k_ ≠ (u6 : Value).ownBlock) (.slice (some ⟨go22, 0, none⟩) x5_1.length co23) y546 := (by rw [hw, Ny546.out]; exact HP24.1); clear HP24; refine qM3 hp_ (Kd.R_after (v := (.slice (some ⟨go22, 0, none⟩) x5_1.length co23)) (v1 := (.slice (some ⟨go22, 0, none⟩) x5_1.length co23)) (ok := (fun _ => True)) (by (with_reducible repeat (first | apply Kd.RqA | apply Kd.RqN | apply Kd.RqD)); exact Kd.R_mono HO_6.out (fun _ hk => ⟨trivial, hk⟩)) hg (.inl rfl)) ((by rw [hw]; exact bQS (HB.out) GB22.out : Below w.heap.size w w25)) ?_; clear HO_5 HO_6 HB; intro HO_5 HO_6 HB; clear hg hw hp_))
    go_loopg [11] kj7 (fun kq v11 w' => ∃ (x5_4 : List Int) (x11_4 : Int), v11 = .int .i64 x11_4 ∧ Aq (spec_l02Echelon.l2 kq a0 x5_4 x6_1 x7_1 (rd x5_1 x8_2) x11_4 = some r) ∧ Aq (kq ≤ kj7) ∧ Aq (Kd.R (Kd.int .i64) 2 w' w.heap.size (fun k_ => some k_ ≠ (u6 : Value).ownBlock) (.slice (some ⟨go22, 0, none⟩) x5_1.length co23) x5_4) ∧ Aq (Kd.R (Kd.int .i64) 2 w' w.heap.size (fun k_ => some k_ ≠ ((.slice (some ⟨go22, 0, none⟩) x5_1.length co23) : Value).ownBlock) u6 x6_1) ∧ Aq (Below w.heap.size w w'))
    case atStart => exact ⟨(y546), (0), tS, H', ⟨Nat.le_refl _⟩, ⟨tR HO_5.out⟩, ⟨by (with_reducible repeat (first | apply Kd.RqA | apply Kd.RqN | apply Kd.RqD)); exact Kd.R_mono HO_6.out (fun _ hk => hk.2)⟩, ⟨tB⟩⟩
    clear H'
    try clear c1
    try clear c7
    try clear c7b0
    try clear c9
    try clear c9b0
    try clear c12
    try clear c13
    try clear c13b0
    try clear c14
    try clear c14b0
    try clear c16
    try clear c16b0
    try clear c16b1
    try clear c19
    try clear c19b0
    try clear c20
    try clear c20b0
    try clear c21
    try clear c21b0
    try clear p22
    try clear q22
    try clear hx22_0
    try clear hx543_0
    try clear hx545_0
    try clear p22
    try clear p543
    try clear p545
    try clear q22
    try clear q543
    try clear q545
    obtain ⟨x5_4, x11_4, rfl, HA, HK4, HO_5, HO_6, HB⟩ := hrel
    have hl5_4 := (Kd.R_reads' HO_5.out).1
    rw [hl5_4] at HO_5
    (try simp only [hl5_4])
    (try simp only [hl5_4] at HO_6)
    cases gk with
    | zero => exact absurd HA.out (by simp [spec_l02Echelon.l2])
    | succ k4 =>
     have H := HA.out
     clear HA
     simp only [spec_l02Echelon.l2] at H
     by_cases c26 : x11_4 < (x5_4.length : Int)
     ·rw [if_pos c26] at H
      have c26b0 := decide_eq_true c26
      clear c26
      (try (have c26b0z := c26b0; simp only [hl5_4] at c26b0z))
      by_cases c27 : 0 ≤ x11_4
      rotate_left
      ·rw [if_neg c27] at H
       exact absurd H (by simp)
      rw [if_pos c27] at H
      have c27b0 := decide_eq_true c27
      clear c27
      (try (have c27b0z := c27b0; simp only [hl5_4] at c27b0z))
      obtain ⟨t548, A28, H⟩ := qBd H
      by_cases c29 : t548 = 1
      rotate_left
      ·rw [if_neg c29] at H
       have c29b0 := beq_eq_false_iff_ne.mpr c29
       have c29b1 := bne_iff_ne.mpr c29
       (try (have c29b0z := c29b0; simp only [hl5_4] at c29b0z))
       (try (have c29b1z := c29b1; simp only [hl5_4] at c29b1z))
       replace H' := Aq.mk H
       clear H
       have p547 : 0 ≤ (x11_4 : Int) := of_decide_eq_true tA
       have q547 : x11_4 < (x5_4.length : Int) := of_decide_eq_true tA
       obtain ⟨ad547, e547, hx547_0⟩ := Kd.at_int (Kd.R_reads' HO_5.out).2.2 x11_4 p547 q547
       obtain rfl : (⟨go22, 0, none⟩ : Addr) = ad547 := (by injection e547)
       (first | simp only [add_plain] at hx547_0 | simp only [add_at] at hx547_0 | simp only [Addr.add, Nat.zero_add] at hx547_0 | skip)
       replace p547 := eq_true p547
       replace q547 := eq_true q547
       go_wp2_with (first | ((with_reducible refine gQc (f := 110) rfl ?_); refine goesL_ (some 59) rfl rfl Try.func110 (by kernel_rfl) rfl #[.int .i64 (rd x5_4 x11_4), .int .i64 x7_1] rfl tL ?_; (with_reducible refine (spec_l02Bit.calls (rd x5_4 x11_4) x7_1 t548 _ A28.out).mono ?_); rintro e w' ⟨rfl, ⟨nd, rfl⟩⟩; refine ⟨_, rfl, ?_⟩))
       (try simp only [← hl5_4])
       go_roundg k4
       case measure => have := HK1.out; have := HK2.out; have := HJ7.out; have := HK4.out; omega
       case rel => exact ⟨(x5_4), (wrap64 (x11_4 + 1)), tS, H', ⟨by have := HK1.out; have := HK2.out; have := HJ7.out; have := HK4.out; omega⟩, ⟨by (try simp only [hl5_4]); (with_reducible repeat (first | apply Kd.RqA | apply Kd.RqN | apply Kd.RqD)); exact HO_5.out⟩, ⟨by (try simp only [hl5_4]); (with_reducible repeat (first | apply Kd.RqA | apply Kd.RqN | apply Kd.RqD)); exact HO_6.out⟩, ⟨tB⟩⟩
      rw [if_pos c29] at H
      have c29b0 := beq_iff_eq.mpr c29
      have c29b1 := bne_eq_false_iff_eq.mpr c29
      clear c29
      (try (have c29b0z := c29b0; simp only [hl5_4] at c29b0z))
      (try (have c29b1z := c29b1; simp only [hl5_4] at c29b1z))
      obtain ⟨y550, hy550⟩ : ∃ y_ : List Int, y_ = (x5_4.set (x11_4 : Int).toNat (Go.bits .xor .i64 (rd x5_4 x11_4) (rd x5_1 x8_2))) := ⟨_, rfl⟩
      replace H : (spec_l02Echelon.l2 k4 a0 y550 x6_1 x7_1 (rd x5_1 x8_2) (wrap64 (x11_4 + 1))) = some r := by first | (rw [hy550]; with_reducible exact H) | (have H2_ := (Option.bind_some _ _).symm.trans H; rw [hy550]; with_reducible exact H2_) | (have H2_ := (Option.bind_some _ _).symm.trans H; with_reducible exact H2_) | with_reducible exact H | (rw [hy550]; exact H) | exact H
      have Ny550 := Aq.mk hy550
      clear hy550
      replace H' := Aq.mk H
      clear H
      have p547 : 0 ≤ (x11_4 : Int) := of_decide_eq_true tA
      have q547 : x11_4 < (x5_4.length : Int) := of_decide_eq_true tA
      obtain ⟨ad547, e547, hx547_0⟩ := Kd.at_int (Kd.R_reads' HO_5.out).2.2 x11_4 p547 q547
      obtain rfl : (⟨go22, 0, none⟩ : Addr) = ad547 := (by injection e547)
      (first | simp only [add_plain] at hx547_0 | simp only [add_at] at hx547_0 | simp only [Addr.add, Nat.zero_add] at hx547_0 | skip)
      replace p547 := eq_true p547
      replace q547 := eq_true q547
      go_wp2_with (first | ((with_reducible refine gQc (f := 110) rfl ?_); refine goesL_ (some 59) rfl rfl Try.func110 (by kernel_rfl) rfl #[.int .i64 (rd x5_4 x11_4), .int .i64 x7_1] rfl tL ?_; (with_reducible refine (spec_l02Bit.calls (rd x5_4 x11_4) x7_1 t548 _ A28.out).mono ?_); rintro e w' ⟨rfl, ⟨nd, rfl⟩⟩; refine ⟨_, rfl, ?_⟩; (try (rw [drewN_self wr]; generalize hq_ : World.drewN wr _ = wr; have n0_ : Aq (Kd.R (Kd.int .i64) 2 wr w.heap.size (fun k_ => some k_ ≠ (u6 : Value).ownBlock) (.slice (some ⟨go22, 0, none⟩) x5_4.length co23) x5_4) := ⟨by rw [← hq_]; exact (tR HO_5.out)⟩; have n1_ : Aq (Kd.R (Kd.int .i64) 2 wr w.heap.size (fun k_ => some k_ ≠ (.slice (some ⟨go22, 0, none⟩) x5_4.length co23 : Value).ownBlock) u6 x6_1) := ⟨by rw [← hq_]; exact (tR HO_6.out)⟩; have n2_ : Aq (Below w.heap.size w wr) := ⟨by rw [← hq_]; exact tB⟩; clear HO_5 HO_6 HB hq_; have HO_5 := n0_; have HO_6 := n1_; have HB := n2_; clear n0_ n1_ n2_)); have p549 : 0 ≤ (x11_4 : Int) := of_decide_eq_true tA; have q549 : x11_4 < (x5_4.length : Int) := of_decide_eq_true tA; obtain ⟨ad549, e549, hx549_0⟩ := Kd.at_int (Kd.R_reads' HO_5.out).2.2 x11_4 p549 q549; obtain rfl : (⟨go22, 0, none⟩ : Addr) = ad549 := (by injection e549); (first | simp only [add_plain] at hx549_0 | simp only [add_at] at hx549_0 | simp only [Addr.add, Nat.zero_add] at hx549_0 | skip); replace p549 := eq_true p549; replace q549 := eq_true q549; have p30 : 0 ≤ (x11_4 : Int) := of_decide_eq_true tA; have q30 : (x11_4 : Int) < ((x5_4.length : Int) : Int) := of_decide_eq_true tA; obtain ⟨hx30_0, hf30_0⟩ := Kd.R_celln 0 HO_5.out (x11_4 : Int) p30 q30; replace p30 := eq_true p30; replace q30 := eq_true q30; obtain ⟨hy31_, hz31_⟩ := Kd.R_celln 0 HO_5.out (x11_4 : Int) (of_decide_eq_true tA) (of_decide_eq_true tA); have HP31 := Kd.R_putg HO_5.out (x11_4 : Int) (Go.bits .xor .i64 (rd x5_4 x11_4) (rd x5_1 x8_2))) | ((with_reducible refine gate_store (t := 2) (p := 67) rfl ?_); refine store_event (t := 2) (p := 67) (v := ?vo_w32) (w1 := (wr.setCell ⟨go22, (x11_4 : Int).toNat, none⟩ (.int .i64 (Go.bits .xor .i64 (rd x5_4 x11_4) (rd x5_1 x8_2))))) ?hg ?ho ?hn ?hr ?_; (case ho => rfl); (case hg => rfl); (case hn => rfl); (case hr => exact tH); intro w32 hw; have hg : wr.grownBy w32 (some go22) := (by rw [hw]; exact HP31.2); have hp_ : Kd.R (Kd.int .i64) 2 w32 w.heap.size (fun k_ => some k_ ≠ (u6 : Value).ownBlock) (.slice (some ⟨go22, 0, none⟩) x5_4.length co23) y550 := (by rw [hw, Ny550.out]; exact HP31.1); clear HP31; refine qM3 hp_ (Kd.R_after (v := (.slice (some ⟨go22, 0, none⟩) x5_4.length co23)) (v1 := (.slice (some ⟨go22, 0, none⟩) x5_4.length co23)) (ok := (fun _ => True)) (by (with_reducible repeat (first | apply Kd.RqA | apply Kd.RqN | apply Kd.RqD)); exact Kd.R_mono HO_6.out (fun _ hk => ⟨trivial, hk⟩)) hg (.inl rfl)) ((by rw [hw]; exact bQS (HB.out) GB22.out : Below w.heap.size w w32)) ?_; clear HO_5 HO_6 HB; intro HO_5 HO_6 HB; clear hg hw hp_))
      (try simp only [← hl5_4])
      go_roundg k4
      case measure => have := HK1.out; have := HK2.out; have := HJ7.out; have := HK4.out; omega
      case rel => exact ⟨(y550), (wrap64 (x11_4 + 1)), tS, H', ⟨by have := HK1.out; have := HK2.out; have := HJ7.out; have := HK4.out; omega⟩, ⟨by (try simp only [hl5_4]); (with_reducible repeat (first | apply Kd.RqA | apply Kd.RqN | apply Kd.RqD)); exact HO_5.out⟩, ⟨by (try simp only [hl5_4]); (with_reducible repeat (first | apply Kd.RqA | apply Kd.RqN | apply Kd.RqD)); exact Kd.R_mono HO_6.out (fun _ hk => hk.2)⟩, ⟨tB⟩⟩
     rw [if_neg c26] at H
     have c26b0 := decide_eq_false c26
     clear c26
     (try (have c26b0z := c26b0; simp only [hl5_4] at c26b0z))
     replace H' := Aq.mk H
     clear H
     go_wp2
     go_loopg [12] k4 (fun kq v12 w' => ∃ (x6_5 : List Int) (x12_5 : Int), v12 = .int .i64 x12_5 ∧ Aq (spec_l02Echelon.l3 kq a0 x5_4 x6_5 x7_1 (rd x5_1 x8_2) x12_5 = some r) ∧ Aq (kq ≤ k4) ∧ Aq (Kd.R (Kd.int .i64) 2 w' w.heap.size (fun k_ => some k_ ≠ (u6 : Value).ownBlock) (.slice (some ⟨go22, 0, none⟩) x5_4.length co23) x5_4) ∧ Aq (Kd.R (Kd.int .i64) 2 w' w.heap.size (fun k_ => some k_ ≠ ((.slice (some ⟨go22, 0, none⟩) x5_4.length co23) : Value).ownBlock) u6 x6_5) ∧ Aq (Below w.heap.size w w'))
     case atStart => exact ⟨(x6_1), (0), tS, H', ⟨Nat.le_refl _⟩, ⟨by (try simp only [hl5_4]); (with_reducible repeat (first | apply Kd.RqA | apply Kd.RqN | apply Kd.RqD)); exact HO_5.out⟩, ⟨by (try simp only [hl5_4]); (with_reducible repeat (first | apply Kd.RqA | apply Kd.RqN | apply Kd.RqD)); exact HO_6.out⟩, ⟨tB⟩⟩
     clear H'
     try clear c1
     try clear c7
     try clear c7b0
     try clear c9
     try clear c9b0
     try clear c12
     try clear c13
     try clear c13b0
     try clear c14
     try clear c14b0
     try clear c16
     try clear c16b0
     try clear c16b1
     try clear c19
     try clear c19b0
     try clear c20
     try clear c20b0
     try clear c21
     try clear c21b0
     try clear p22
     try clear q22
     try clear c26
     try clear c26b0
     try clear c27
     try clear c27b0
     try clear c29
     try clear c29b0
     try clear c29b1
     try clear p30
     try clear q30
     try clear hx22_0
     try clear hx30_0
     try clear hx543_0
     try clear hx545_0
     try clear hx547_0
     try clear hx549_0
     try clear p22
     try clear p30
     try clear p543
     try clear p545
     try clear p547
     try clear p549
     try clear q22
     try clear q30
     try clear q543
     try clear q545
     try clear q547
     try clear q549
     obtain ⟨x6_5, x12_5, rfl, HA, HK5, HO_5, HO_6, HB⟩ := hrel
     cases gk with
     | zero => exact absurd HA.out (by simp [spec_l02Echelon.l3])
     | succ k5 =>
      have H := HA.out
      clear HA
      simp only [spec_l02Echelon.l3] at H
      by_cases c33 : x12_5 < (x6_5.length : Int)
      rotate_left
      ·rw [if_neg c33] at H
       have c33b0 := decide_eq_false c33
       clear c33
       (try (have c33b0z := c33b0; simp only [hl5_4] at c33b0z))
       by_cases c42 : x6_5.length < 17592186044416
       rotate_left
       ·rw [if_neg c42] at H
        exact absurd H (by simp)
       rw [if_pos c42] at H
       have LMc42 := Aq.mk c42
       clear c42
       obtain ⟨y555, hy555⟩ : ∃ y_ : List Int, y_ = (x6_5 ++ [(rd x5_1 x8_2)]) := ⟨_, rfl⟩
       replace H : (spec_l02Echelon.l0 k5 a0 x5_4 y555 (wrap64 (x7_1 + 1))) = some r := by first | (rw [hy555]; with_reducible exact H) | (have H2_ := (Option.bind_some _ _).symm.trans H; rw [hy555]; with_reducible exact H2_) | (have H2_ := (Option.bind_some _ _).symm.trans H; with_reducible exact H2_) | with_reducible exact H | (rw [hy555]; exact H) | exact H
       have Ny555 := Aq.mk hy555
       clear hy555
       replace H' := Aq.mk H
       clear H
       obtain ⟨Ao43, co43, eo43⟩ := Kd.R_slice HO_6.out
       subst eo43
       go_wp2_with (first | ((with_reducible refine gate_builtin (b := .append) (xs := #[.tmp 88, .tmp 90]) rfl ?_); at_builtin; refine Kd.R_append (Kd.int .i64) (w0 := w) w.heap.size rfl (.tmp 88) (.tmp 90) 38 2 (.int .i64 0) 8 rfl Try.underlying38 info2 rfl (by decide) (by omega) (.slice Ao43 x6_5.length co43) x6_5 (rd x5_1 x8_2) [.int .i64 (rd x5_1 x8_2)] (fun k_ => some k_ ≠ (.slice (some ⟨go22, 0, none⟩) x5_4.length co23 : Value).ownBlock) (fun _ => False) rfl rfl ?aP (fun _ hk => hk.elim) ?aF ?aO ?aB ?aS ?aL ?_; (case aP => exact rfl); (case aB => exact tB); (case aF => exact (fun k_ hk => Kd.fresh' (Kd.R_lt (tR HO_5.out)) k_ hk)); (case aO => exact (tR HO_6.out)); (case aS => exact (bQZ tB)); (case aL => have := LMc42.out; omega); intro v556 w44 ho hb hg hat; rw [← Ny555.out] at ho; refine qM3 (Kd.R_after (ok := (fun _ => True)) (by (with_reducible repeat (first | apply Kd.RqA | apply Kd.RqN | apply Kd.RqD)); exact Kd.R_mono HO_5.out (fun _ hk => ⟨trivial, hk⟩)) hg hat) hb ho ?_; clear HO_5 HB HO_6; intro HO_5 HB HO557; clear ho hb hg hat))
       (try simp only [← hl5_4])
       go_roundg k5
       case measure => have := HK1.out; have := HK2.out; have := HJ7.out; have := HK4.out; have := HK5.out; omega
       case rel => exact ⟨(x5_4), (y555), (wrap64 (x7_1 + 1)), tS, H', ⟨by have := HK1.out; have := HK2.out; have := HJ7.out; have := HK4.out; have := HK5.out; omega⟩, ⟨by (try simp only [hl5_4]); (with_reducible repeat (first | apply Kd.RqA | apply Kd.RqN | apply Kd.RqD)); exact Kd.R_mono HO_5.out (fun _ hk => hk.2)⟩, ⟨by (try simp only [hl5_4]); (with_reducible repeat (first | apply Kd.RqA | apply Kd.RqN | apply Kd.RqD)); exact HO557.out⟩, ⟨tB⟩⟩
      rw [if_pos c33] at H
      have c33b0 := decide_eq_true c33
      clear c33
      (try (have c33b0z := c33b0; simp only [hl5_4] at c33b0z))
      by_cases c34 : 0 ≤ x12_5
      rotate_left
      ·rw [if_neg c34] at H
       exact absurd H (by simp)
      rw [if_pos c34] at H
      have c34b0 := decide_eq_true c34
      clear c34
      (try (have c34b0z := c34b0; simp only [hl5_4] at c34b0z))
      obtain ⟨t552, A35, H⟩ := qBd H
      by_cases c36 : t552 = 1
      rotate_left
      ·rw [if_neg c36] at H
       have c36b0 := beq_eq_false_iff_ne.mpr c36
       have c36b1 := bne_iff_ne.mpr c36
       (try (have c36b0z := c36b0; simp only [hl5_4] at c36b0z))
       (try (have c36b1z := c36b1; simp only [hl5_4] at c36b1z))
       replace H' := Aq.mk H
       clear H
       obtain ⟨Ao41, co41, eo41⟩ := Kd.R_slice HO_6.out
       subst eo41
       have p551 : 0 ≤ (x12_5 : Int) := of_decide_eq_true tA
       have q551 : x12_5 < (x6_5.length : Int) := of_decide_eq_true tA
       obtain ⟨ad551, e551, hx551_0⟩ := Kd.at_int (Kd.R_reads' HO_6.out).2.2 x12_5 p551 q551
       cases e551
       replace p551 := eq_true p551
       replace q551 := eq_true q551
       go_wp2_with (first | ((with_reducible refine gQc (f := 110) rfl ?_); refine goesL_ (some 79) rfl rfl Try.func110 (by kernel_rfl) rfl #[.int .i64 (rd x6_5 x12_5), .int .i64 x7_1] rfl tL ?_; (with_reducible refine (spec_l02Bit.calls (rd x6_5 x12_5) x7_1 t552 _ A35.out).mono ?_); rintro e w' ⟨rfl, ⟨nd, rfl⟩⟩; refine ⟨_, rfl, ?_⟩))
       go_roundg k5
       case measure => have := HK1.out; have := HK2.out; have := HJ7.out; have := HK4.out; have := HK5.out; omega
       case rel => exact ⟨(x6_5), (wrap64 (x12_5 + 1)), tS, H', ⟨by have := HK1.out; have := HK2.out; have := HJ7.out; have := HK4.out; have := HK5.out; omega⟩, ⟨by (try simp only [hl5_4]); (with_reducible repeat (first | apply Kd.RqA | apply Kd.RqN | apply Kd.RqD)); exact HO_5.out⟩, ⟨by (try simp only [hl5_4]); (with_reducible repeat (first | apply Kd.RqA | apply Kd.RqN | apply Kd.RqD)); exact HO_6.out⟩, ⟨tB⟩⟩
      rw [if_pos c36] at H
      have c36b0 := beq_iff_eq.mpr c36
      have c36b1 := bne_eq_false_iff_eq.mpr c36
      clear c36
      (try (have c36b0z := c36b0; simp only [hl5_4] at c36b0z))
      (try (have c36b1z := c36b1; simp only [hl5_4] at c36b1z))
      obtain ⟨y554, hy554⟩ : ∃ y_ : List Int, y_ = (x6_5.set (x12_5 : Int).toNat (Go.bits .xor .i64 (rd x6_5 x12_5) (rd x5_1 x8_2))) := ⟨_, rfl⟩
      replace H : (spec_l02Echelon.l3 k5 a0 x5_4 y554 x7_1 (rd x5_1 x8_2) (wrap64 (x12_5 + 1))) = some r := by first | (rw [hy554]; with_reducible exact H) | (have H2_ := (Option.bind_some _ _).symm.trans H; rw [hy554]; with_reducible exact H2_) | (have H2_ := (Option.bind_some _ _).symm.trans H; with_reducible exact H2_) | with_reducible exact H | (rw [hy554]; exact H) | exact H
      have Ny554 := Aq.mk hy554
      clear hy554
      replace H' := Aq.mk H
      clear H
      obtain ⟨Ao38, co38, eo38⟩ := Kd.R_slice HO_6.out
      subst eo38
      have p551 : 0 ≤ (x12_5 : Int) := of_decide_eq_true tA
      have q551 : x12_5 < (x6_5.length : Int) := of_decide_eq_true tA
      obtain ⟨ad551, e551, hx551_0⟩ := Kd.at_int (Kd.R_reads' HO_6.out).2.2 x12_5 p551 q551
      cases e551
      replace p551 := eq_true p551
      replace q551 := eq_true q551
      go_wp2_with (first | ((with_reducible refine gQc (f := 110) rfl ?_); refine goesL_ (some 79) rfl rfl Try.func110 (by kernel_rfl) rfl #[.int .i64 (rd x6_5 x12_5), .int .i64 x7_1] rfl tL ?_; (with_reducible refine (spec_l02Bit.calls (rd x6_5 x12_5) x7_1 t552 _ A35.out).mono ?_); rintro e w' ⟨rfl, ⟨nd, rfl⟩⟩; refine ⟨_, rfl, ?_⟩; (try (rw [drewN_self wr]; generalize hq_ : World.drewN wr _ = wr; have n0_ : Aq (Kd.R (Kd.int .i64) 2 wr w.heap.size (fun k_ => some k_ ≠ (.slice (some ad551) x6_5.length co38 : Value).ownBlock) (.slice (some ⟨go22, 0, none⟩) x5_4.length co23) x5_4) := ⟨by rw [← hq_]; exact (tR HO_5.out)⟩; have n1_ : Aq (Kd.R (Kd.int .i64) 2 wr w.heap.size (fun k_ => some k_ ≠ (.slice (some ⟨go22, 0, none⟩) x5_4.length co23 : Value).ownBlock) (.slice (some ad551) x6_5.length co38) x6_5) := ⟨by rw [← hq_]; exact (tR HO_6.out)⟩; have n2_ : Aq (Below w.heap.size w wr) := ⟨by rw [← hq_]; exact tB⟩; clear HO_5 HO_6 HB hq_; have HO_5 := n0_; have HO_6 := n1_; have HB := n2_; clear n0_ n1_ n2_)); have p553 : 0 ≤ (x12_5 : Int) := of_decide_eq_true tA; have q553 : x12_5 < (x6_5.length : Int) := of_decide_eq_true tA; obtain ⟨ad553, e553, hx553_0⟩ := Kd.at_int (Kd.R_reads' HO_6.out).2.2 x12_5 p553 q553; obtain rfl : ad551 = ad553 := (by injection e553); replace p553 := eq_true p553; replace q553 := eq_true q553; have p37 : 0 ≤ (x12_5 : Int) := of_decide_eq_true tA; have q37 : (x12_5 : Int) < ((x6_5.length : Int) : Int) := of_decide_eq_true tA; obtain ⟨go37, co37, eo37, gb37, gl37, cl37, HG37⟩ := Kd.R_form HO_6.out (by omega); (first | cases eo37 | (injection eo37 with ea_ en_ ec_; (first | subst ea_ | (injection ea_ with ea_; subst ea_)); subst ec_; clear en_)); have GB37 := Aq.mk gb37; have GG37 := Aq.mk HG37; clear gb37 gl37 HG37; (first | simp only [add_plain] at hx551_0 | skip); (first | simp only [add_plain] at hx553_0 | skip); obtain ⟨hx37_0, hf37_0⟩ := Kd.R_celln 0 HO_6.out (x12_5 : Int) p37 q37; replace p37 := eq_true p37; replace q37 := eq_true q37; obtain ⟨hy39_, hz39_⟩ := Kd.R_celln 0 HO_6.out (x12_5 : Int) (of_decide_eq_true tA) (of_decide_eq_true tA); have HP39 := Kd.R_putg HO_6.out (x12_5 : Int) (Go.bits .xor .i64 (rd x6_5 x12_5) (rd x5_1 x8_2))) | ((with_reducible refine gate_store (t := 2) (p := 87) rfl ?_); refine store_event (t := 2) (p := 87) (v := ?vo_w40) (w1 := (wr.setCell ⟨go37, (x12_5 : Int).toNat, none⟩ (.int .i64 (Go.bits .xor .i64 (rd x6_5 x12_5) (rd x5_1 x8_2))))) ?hg ?ho ?hn ?hr ?_; (case ho => rfl); (case hg => rfl); (case hn => rfl); (case hr => exact tH); intro w40 hw; have hg : wr.grownBy w40 (some go37) := (by rw [hw]; exact HP39.2); have hp_ : Kd.R (Kd.int .i64) 2 w40 w.heap.size (fun k_ => some k_ ≠ (.slice (some ⟨go22, 0, none⟩) x5_4.length co23 : Value).ownBlock) (.slice (some ⟨go37, 0, none⟩) x6_5.length co38) y554 := (by rw [hw, Ny554.out]; exact HP39.1); clear HP39; refine qM3 (Kd.R_after (v := (.slice (some ⟨go37, 0, none⟩) x6_5.length co38)) (v1 := (.slice (some ⟨go37, 0, none⟩) x6_5.length co38)) (ok := (fun _ => True)) (by (with_reducible repeat (first | apply Kd.RqA | apply Kd.RqN | apply Kd.RqD)); exact Kd.R_mono HO_5.out (fun _ hk => ⟨trivial, hk⟩)) hg (.inl rfl)) hp_ ((by rw [hw]; exact bQS (HB.out) GB37.out : Below w.heap.size w w40)) ?_; clear HO_5 HO_6 HB; intro HO_5 HO_6 HB; clear hg hw hp_))
      go_roundg k5
      case measure => have := HK1.out; have := HK2.out; have := HJ7.out; have := HK4.out; have := HK5.out; omega
      case rel => exact ⟨(y554), (wrap64 (x12_5 + 1)), tS, H', ⟨by have := HK1.out; have := HK2.out; have := HJ7.out; have := HK4.out; have := HK5.out; omega⟩, ⟨by (try simp only [hl5_4]); (with_reducible repeat (first | apply Kd.RqA | apply Kd.RqN | apply Kd.RqD)); exact Kd.R_mono HO_5.out (fun _ hk => hk.2)⟩, ⟨by (try simp only [hl5_4]); (with_reducible repeat (first | apply Kd.RqA | apply Kd.RqN | apply Kd.RqD)); exact HO_6.out⟩, ⟨tB⟩⟩
end Go.Proofs.Ytbalkaphibnpcaa.P
