/- Functions of the program and what they tell, as the printing program wrote it. -/
import Derived.Test.YtpigghpimgkilaaPx0
namespace Go.Proofs.Ytpigghpimgkilaa.P
open Go.Shelf Go.RowKit Go.Proofs.YtpigghpimgkilaaW.PrintWords Go.Proofs.YtpigghpimgkilaaW.PrintLast Go.Proofs.YtpigghpimgkilaaW.PrintMore
attribute [local go_sem] max2_int min2_int max_two min_two max_three min_three max_four min_four
set_option linter.unusedVariables false
set_option linter.unusedSimpArgs false
set_option maxHeartbeats 8000000
set_option maxRecDepth 100000
def laws_toInt64S.l0 : Nat → List Int → List Int → Int → Option (List Int)
  | 0, _, _, _ => none
  | k + 1, x0, x3, x4 => if x4 < (x0.length : Int) then (if 0 ≤ x4 then (if x4 < (x3.length : Int) then (laws_toInt64S.l0 k x0 (x3.set (x4 : Int).toNat (rd x0 x4)) (wrap64 (x4 + 1))) else (none)) else (none)) else (some x3)
def laws_toInt64S.f (k : Nat) (l0 : List Int) : Option (List Int) := if 0 ≤ (l0.length : Int) then (if ((l0.length : Int) : Int).toNat ≤ 35184372088832 then (laws_toInt64S.l0 k l0 (List.replicate ((l0.length : Int) : Int).toNat 0) 0) else (none)) else (none)
theorem laws_toInt64S.mono_l : ∀ k, (∀ y0 y1 y2, LeO (laws_toInt64S.l0 k y0 y1 y2) (laws_toInt64S.l0 (k + 1) y0 y1 y2))
 | 0 => fun _ _ _ r h => by simp [laws_toInt64S.l0] at h
 | k + 1 => by
  have ih0 := laws_toInt64S.mono_l k
  ·intro y0 y1 y2
   unfold laws_toInt64S.l0
   repeat' first
   | (with_reducible first | apply ih0 | exact LeO.refl _ | exact LeO.none _ | refine LeO.ite ?_ ?_ | refine LeO.bind ?_ (fun _ => ?_))
   | exact LeO.none _
   | refine LeO.ite ?_ ?_
   | refine LeO.bind ?_ (fun _ => ?_)
theorem laws_toInt64S.mono : ∀ a0 k, LeO (laws_toInt64S.f k a0) (laws_toInt64S.f (k + 1) a0) := by
 intro a0 k
 have ih0 := laws_toInt64S.mono_l k
 unfold laws_toInt64S.f
 repeat' first
  | (with_reducible first | apply ih0 | exact LeO.refl _ | exact LeO.none _ | refine LeO.ite ?_ ?_ | refine LeO.bind ?_ (fun _ => ?_))
  | exact LeO.none _
  | refine LeO.ite ?_ ?_
  | refine LeO.bind ?_ (fun _ => ?_)
theorem laws_toInt64S.calls (k : Nat) (A0 : Option Addr) (c0 : Nat) (l0 : List Int) (r : List Int) (w : World) (hr0 : Kd.C (Kd.int .i64) w A0 l0.length l0) (hc0 : l0.length ≤ c0) (h : laws_toInt64S.f k l0 = some r) :
 Calls Try.prog 9 #[.slice A0 l0.length c0] w fun e w' => ∃ v0_ : Value, e = .returned (v0_) ∧ Kd.R (Kd.int .i64) 2 w' w.heap.size (fun _ => True) v0_ r ∧ Below w.heap.size w w' := by
 have HR0 := Aq.mk hr0
 have HC0 := Aq.mk hc0
 clear hr0 hc0
 have HB := Aq.mk (Below.refl w.heap.size w)
 have H : (if 0 ≤ (l0.length : Int) then (if ((l0.length : Int) : Int).toNat ≤ 35184372088832 then (laws_toInt64S.l0 k l0 (List.replicate ((l0.length : Int) : Int).toNat 0) 0) else (none)) else (none)) = some r := h
 clear h
 by_cases c2 : 0 ≤ (l0.length : Int)
 rotate_left
 ·rw [if_neg c2] at H
  exact absurd H (by simp)
 rw [if_pos c2] at H
 have c2b0 := eq_true c2
 have c2b1 := decide_eq_true c2
 clear c2
 by_cases c3 : ((l0.length : Int) : Int).toNat ≤ 35184372088832
 rotate_left
 ·rw [if_neg c3] at H
  exact absurd H (by simp)
 rw [if_pos c3] at H
 have c3b0 := eq_true c3
 have c3b1 := decide_eq_true c3
 clear c3
 obtain ⟨y173, hy173⟩ : ∃ y_ : List Int, y_ = (List.replicate ((l0.length : Int) : Int).toNat 0) := ⟨_, rfl⟩
 replace H : (laws_toInt64S.l0 k l0 y173 0) = some r := by first | (rw [hy173]; with_reducible exact H) | (have H2_ := (Option.bind_some _ _).symm.trans H; rw [hy173]; with_reducible exact H2_) | (have H2_ := (Option.bind_some _ _).symm.trans H; with_reducible exact H2_) | with_reducible exact H | (rw [hy173]; exact H) | exact H
 have Ny173 := Aq.mk hy173
 clear hy173
 replace H' := Aq.mk H
 clear H
 go_enter Try.func9, Try.ntmps9
 go_wp2_with (first | ((with_reducible refine gQd (N := 7) rfl ?_); refine Kd.R_make (Kd.int .i64) _ 2 rfl (N := 7) rfl 24 _ _ rfl (l0.length : Int) rfl rfl Try.underlying24 (.int .i64 0) 8 info2 rfl (by decide) (by omega) 0 (ok := fun _ => True) (okp := fun _ => True) rfl (fun _ hk => hk) trivial (of_decide_eq_true tA) (Nat.le_trans (Nat.mul_le_mul_right _ (of_decide_eq_true tA : (l0.length : Int).toNat ≤ 35184372088832)) (by omega)) (Below.refl _ _) (Nat.le_refl _) ?_; intro v174 w4 ho5 hb hg_ hnew_; clear hg_ hnew_; (first | rw [← Ny173.out] at ho5 | (simp only [Int.reduceToNat] at ho5; rw [← Ny173.out] at ho5)); refine qM2 (Kd.R_lower ho5 (bQZ tB)) (bQT tB hb) ?_; clear HB; intro HO175 HB; clear hb ho5))
 go_loopg [4] k (fun kq v4 w' => ∃ (x3_1 : List Int) (x4_1 : Int), v4 = .int .i64 x4_1 ∧ Aq (laws_toInt64S.l0 kq l0 x3_1 x4_1 = some r) ∧ Aq (kq ≤ k) ∧ Aq (Kd.R (Kd.int .i64) 2 w' w.heap.size (fun _ => True) v174 x3_1) ∧ Aq (Below w.heap.size w w'))
 case atStart => exact ⟨(y173), (0), tS, H', ⟨Nat.le_refl _⟩, ⟨tR HO175.out⟩, ⟨tB⟩⟩
 clear H'
 try clear c2
 try clear c2b0
 try clear c2b1
 try clear c3
 try clear c3b0
 try clear c3b1
 obtain ⟨x3_1, x4_1, rfl, HA, HK1, HO_3, HB⟩ := hrel
 cases gk with
 | zero => exact absurd HA.out (by simp [laws_toInt64S.l0])
 | succ k1 =>
  have H := HA.out
  clear HA
  simp only [laws_toInt64S.l0] at H
  by_cases c6 : x4_1 < (l0.length : Int)
  rotate_left
  ·rw [if_neg c6] at H
   have c6b0 := decide_eq_false c6
   clear c6
   obtain rfl := Option.some.inj H
   go_wp2
   go_ret
   exact ⟨_, tE, tR HO_3.out, tB⟩
  rw [if_pos c6] at H
  have c6b0 := decide_eq_true c6
  clear c6
  by_cases c7 : 0 ≤ x4_1
  rotate_left
  ·rw [if_neg c7] at H
   exact absurd H (by simp)
  rw [if_pos c7] at H
  have c7b0 := decide_eq_true c7
  clear c7
  by_cases c8 : x4_1 < (x3_1.length : Int)
  rotate_left
  ·rw [if_neg c8] at H
   exact absurd H (by simp)
  rw [if_pos c8] at H
  have c8b0 := decide_eq_true c8
  clear c8
  obtain ⟨y177, hy177⟩ : ∃ y_ : List Int, y_ = (x3_1.set (x4_1 : Int).toNat (rd l0 x4_1)) := ⟨_, rfl⟩
  replace H : (laws_toInt64S.l0 k1 l0 y177 (wrap64 (x4_1 + 1))) = some r := by first | (rw [hy177]; with_reducible exact H) | (have H2_ := (Option.bind_some _ _).symm.trans H; rw [hy177]; with_reducible exact H2_) | (have H2_ := (Option.bind_some _ _).symm.trans H; with_reducible exact H2_) | with_reducible exact H | (rw [hy177]; exact H) | exact H
  have Ny177 := Aq.mk hy177
  clear hy177
  replace H' := Aq.mk H
  clear H
  have p176 : 0 ≤ (x4_1 : Int) := of_decide_eq_true tA
  have q176 : x4_1 < (l0.length : Int) := of_decide_eq_true tA
  obtain ⟨ad176, e176, hx176_0⟩ := Kd.at_int HR0.out x4_1 p176 q176
  cases e176
  replace hx176_0 := (HB.out.cell (World.block_lt_of_cell? w _ hx176_0)).trans hx176_0
  replace p176 := eq_true p176
  replace q176 := eq_true q176
  have p9 : 0 ≤ (x4_1 : Int) := of_decide_eq_true tA
  have q9 : (x4_1 : Int) < ((x3_1.length : Int) : Int) := of_decide_eq_true tA
  obtain ⟨go9, co9, eo9, gb9, gl9, cl9, HG9⟩ := Kd.R_form HO_3.out (by omega)
  (first | cases eo9 | (injection eo9 with ea_ en_ ec_; (first | subst ea_ | (injection ea_ with ea_; subst ea_)); subst ec_; clear en_))
  have GB9 := Aq.mk gb9
  have GG9 := Aq.mk HG9
  clear gb9 gl9 HG9
  obtain ⟨hx9_0, hf9_0⟩ := Kd.R_celln 0 HO_3.out (x4_1 : Int) p9 q9
  replace p9 := eq_true p9
  replace q9 := eq_true q9
  have HP10 := Kd.R_putg HO_3.out (x4_1 : Int) (rd l0 x4_1)
  go_wp2_with (first | ((with_reducible refine gate_store (t := 2) (p := 20) rfl ?_); refine store_event (t := 2) (p := 20) (v := ?vo_w11) (w1 := (wr.setCell ⟨go9, (x4_1 : Int).toNat, none⟩ (.int .i64 (rd l0 x4_1)))) ?hg ?ho ?hn ?hr ?_; (case ho => rfl); (case hg => rfl); (case hn => rfl); (case hr => exact tH); intro w11 hw; have hg : wr.grownBy w11 (some go9) := (by rw [hw]; exact HP10.2); have hp_ : Kd.R (Kd.int .i64) 2 w11 w.heap.size (fun _ => True) (.slice (some ⟨go9, 0, none⟩) x3_1.length co9) y177 := (by rw [hw, Ny177.out]; exact HP10.1); clear HP10; refine qM2 hp_ ((by rw [hw]; exact bQS (HB.out) GB9.out : Below w.heap.size w w11)) ?_; clear HO_3 HB; intro HO_3 HB; clear hg hw hp_))
  go_roundg k1
  case measure => have := HK1.out; omega
  case rel => exact ⟨(y177), (wrap64 (x4_1 + 1)), tS, H', ⟨by have := HK1.out; omega⟩, ⟨tR HO_3.out⟩, ⟨tB⟩⟩
def impl_within.f (a0 : Int) (a1 : Int) (a2 : Int) : Option (Bool) := if a0 ≥ a1 then (some (decide (a0 ≤ a2))) else (some false)
theorem impl_within.calls (a0 : Int) (a1 : Int) (a2 : Int) (r : Bool) (w : World) (h : impl_within.f a0 a1 a2 = some r) :
 Calls Try.prog 71 #[.int .i64 a0, .int .i64 a1, .int .i64 a2] w fun e w' => e = .returned (.bool r) ∧ Dq w w' := by
 have H : (if a0 ≥ a1 then (some (decide (a0 ≤ a2))) else (some false)) = some r := h
 clear h
 by_cases c4 : a0 ≥ a1
 ·rw [if_pos c4] at H
  have c4b0 := decide_eq_true c4
  clear c4
  obtain rfl := Option.some.inj H
  go_enter Try.func71, Try.ntmps71
  go_wp2
  go_ret
  exact ⟨tS, tD⟩
 rw [if_neg c4] at H
 have c4b0 := decide_eq_false c4
 clear c4
 obtain rfl := Option.some.inj H
 go_enter Try.func71, Try.ntmps71
 go_wp2
 go_ret
 exact ⟨tS, tD⟩
def impl_degreeOf.l0 : Nat → Int → Int → Option (Int)
  | 0, _, _ => none
  | k + 1, x0, x3 => if x0 > 0 then (impl_degreeOf.l0 k (x0 / 2) (wrap64 (x3 + 1))) else (some x3)
def impl_degreeOf.f (k : Nat) (a0 : Int) : Option (Int) := impl_degreeOf.l0 k a0 (-1)
theorem impl_degreeOf.mono_l : ∀ k, (∀ y0 y1, LeO (impl_degreeOf.l0 k y0 y1) (impl_degreeOf.l0 (k + 1) y0 y1))
 | 0 => fun _ _ r h => by simp [impl_degreeOf.l0] at h
 | k + 1 => by
  have ih0 := impl_degreeOf.mono_l k
  ·intro y0 y1
   unfold impl_degreeOf.l0
   repeat' first
   | (with_reducible first | apply ih0 | exact LeO.refl _ | exact LeO.none _ | refine LeO.ite ?_ ?_ | refine LeO.bind ?_ (fun _ => ?_))
   | exact LeO.none _
   | refine LeO.ite ?_ ?_
   | refine LeO.bind ?_ (fun _ => ?_)
theorem impl_degreeOf.mono : ∀ a0 k, LeO (impl_degreeOf.f k a0) (impl_degreeOf.f (k + 1) a0) := by
 intro a0 k
 have ih0 := impl_degreeOf.mono_l k
 unfold impl_degreeOf.f
 repeat' first
  | (with_reducible first | apply ih0 | exact LeO.refl _ | exact LeO.none _ | refine LeO.ite ?_ ?_ | refine LeO.bind ?_ (fun _ => ?_))
  | exact LeO.none _
  | refine LeO.ite ?_ ?_
  | refine LeO.bind ?_ (fun _ => ?_)
theorem impl_degreeOf.calls (k : Nat) (a0 : Int) (r : Int) (w : World) (h : impl_degreeOf.f k a0 = some r) :
 Calls Try.prog 73 #[.int .i64 a0] w fun e w' => e = .returned (.int .i64 r) ∧ Dq w w' := by
 have H : (impl_degreeOf.l0 k a0 (-1)) = some r := h
 clear h
 replace H' := Aq.mk H
 clear H
 go_enter Try.func73, Try.ntmps73
 go_wp2
 go_loopg [0, 3] k (fun kq v0 v3 w' => ∃ (x0_1 : Int) (x3_1 : Int), v0 = .int .i64 x0_1 ∧ v3 = .int .i64 x3_1 ∧ Aq (impl_degreeOf.l0 kq x0_1 x3_1 = some r) ∧ Aq (kq ≤ k) ∧ Dq w w')
 case atStart => exact ⟨(a0), ((-1)), tS, tS, H', ⟨Nat.le_refl _⟩, tD⟩
 clear H'
 obtain ⟨x0_1, x3_1, rfl, rfl, HA, HK1, ⟨m1, rfl⟩⟩ := hrel
 cases gk with
 | zero => exact absurd HA.out (by simp [impl_degreeOf.l0])
 | succ k1 =>
  have H := HA.out
  clear HA
  simp only [impl_degreeOf.l0] at H
  by_cases c2 : x0_1 > 0
  rotate_left
  ·rw [if_neg c2] at H
   have c2b0 := decide_eq_false c2
   clear c2
   obtain rfl := Option.some.inj H
   go_wp2
   go_ret
   exact ⟨tS, tD⟩
  rw [if_pos c2] at H
  have c2b0 := decide_eq_true c2
  clear c2
  replace H' := Aq.mk H
  clear H
  go_wp2
  go_roundg k1
  case measure => have := HK1.out; omega
  case rel => exact ⟨(x0_1 / 2), (wrap64 (x3_1 + 1)), tS, tS, H', ⟨by have := HK1.out; omega⟩, tD⟩
def impl_restOf.l0 : Nat → Int → Int → Int → Option (Int)
  | 0, _, _, _ => none
  | k + 1, x0, x1, x5 => (impl_degreeOf.f k x0).bind fun t179 => (if t179 ≥ x5 then ((impl_degreeOf.f k x0).bind fun t180 => (if 0 ≤ (wrap64 (t180 - x5)) then (impl_restOf.l0 k (Go.bits .xor .i64 x0 (shl .i64 x1 (wrap64 (t180 - x5)))) x1 x5) else (none))) else (some x0))
def impl_restOf.f (k : Nat) (a0 : Int) (a1 : Int) : Option (Int) := (impl_degreeOf.f k a1).bind fun t178 => (impl_restOf.l0 k a0 a1 t178)
theorem impl_restOf.mono_l : ∀ k, (∀ y0 y1 y2, LeO (impl_restOf.l0 k y0 y1 y2) (impl_restOf.l0 (k + 1) y0 y1 y2))
 | 0 => fun _ _ _ r h => by simp [impl_restOf.l0] at h
 | k + 1 => by
  have ih0 := impl_restOf.mono_l k
  ·intro y0 y1 y2
   unfold impl_restOf.l0
   repeat' first
   | (with_reducible first | apply ih0 | apply impl_degreeOf.mono | exact LeO.refl _ | exact LeO.none _ | refine LeO.ite ?_ ?_ | refine LeO.bind ?_ (fun _ => ?_))
   | exact LeO.none _
   | refine LeO.ite ?_ ?_
   | refine LeO.bind ?_ (fun _ => ?_)
theorem impl_restOf.mono : ∀ a0 a1 k, LeO (impl_restOf.f k a0 a1) (impl_restOf.f (k + 1) a0 a1) := by
 intro a0 a1 k
 have ih0 := impl_restOf.mono_l k
 unfold impl_restOf.f
 repeat' first
  | (with_reducible first | apply ih0 | apply impl_degreeOf.mono | exact LeO.refl _ | exact LeO.none _ | refine LeO.ite ?_ ?_ | refine LeO.bind ?_ (fun _ => ?_))
  | exact LeO.none _
  | refine LeO.ite ?_ ?_
  | refine LeO.bind ?_ (fun _ => ?_)
theorem impl_restOf.calls (k : Nat) (a0 : Int) (a1 : Int) (r : Int) (w : World) (h : impl_restOf.f k a0 a1 = some r) :
 Calls Try.prog 75 #[.int .i64 a0, .int .i64 a1] w fun e w' => e = .returned (.int .i64 r) ∧ Dq w w' := by
 have H : ((impl_degreeOf.f k a1).bind fun t178 => (impl_restOf.l0 k a0 a1 t178)) = some r := h
 clear h
 obtain ⟨t178, A3, H⟩ := qBd H
 replace H' := Aq.mk H
 clear H
 go_enter Try.func75, Try.ntmps75
 go_wp2_with (first | ((with_reducible refine gQc (f := 73) rfl ?_); refine goesL_ (some 7) rfl rfl Try.func73 (by kernel_rfl) rfl #[.int .i64 a1] rfl tL ?_; (with_reducible refine (impl_degreeOf.calls k a1 t178 _ A3.out).mono ?_); rintro e w' ⟨rfl, ⟨nd, rfl⟩⟩; refine ⟨_, rfl, ?_⟩))
 go_loopg [0] k (fun kq v0 w' => ∃ (x0_1 : Int), v0 = .int .i64 x0_1 ∧ Aq (impl_restOf.l0 kq x0_1 a1 t178 = some r) ∧ Aq (kq ≤ k) ∧ Dq w w')
 case atStart => exact ⟨(a0), tS, H', ⟨Nat.le_refl _⟩, tD⟩
 clear H'
 obtain ⟨x0_1, rfl, HA, HK1, ⟨m1, rfl⟩⟩ := hrel
 cases gk with
 | zero => exact absurd HA.out (by simp [impl_restOf.l0])
 | succ k1 =>
  have H := HA.out
  clear HA
  simp only [impl_restOf.l0] at H
  obtain ⟨t179, A4, H⟩ := qBd H
  by_cases c5 : t179 ≥ t178
  rotate_left
  ·rw [if_neg c5] at H
   have c5b0 := decide_eq_false c5
   clear c5
   obtain rfl := Option.some.inj H
   go_wp2_with (first | ((with_reducible refine gQc (f := 73) rfl ?_); refine goesL_ (some 9) rfl rfl Try.func73 (by kernel_rfl) rfl #[.int .i64 x0_1] rfl tL ?_; (with_reducible refine (impl_degreeOf.calls k1 x0_1 t179 _ A4.out).mono ?_); rintro e w' ⟨rfl, ⟨nd, rfl⟩⟩; refine ⟨_, rfl, ?_⟩))
   go_ret
   exact ⟨tS, tD⟩
  rw [if_pos c5] at H
  have c5b0 := decide_eq_true c5
  clear c5
  obtain ⟨t180, A6, H⟩ := qBd H
  obtain ⟨ji7, hji7⟩ : ∃ j_ : Int, (wrap64 (t180 - t178)) = j_ := ⟨_, rfl⟩
  first | rw [hji7] at H | simp only [hji7] at H | skip
  (try rw [hji7] at A4)
  (try rw [hji7] at A6)
  have hji7w : (IntKind.i64.wrap (t180 - t178)) = ji7 := (i64_w _).trans hji7
  by_cases c8 : 0 ≤ (ji7)
  rotate_left
  ·rw [if_neg c8] at H
   exact absurd H (by simp)
  rw [if_pos c8] at H
  have c8b0 := eq_true c8
  have c8b1 := decide_eq_true c8
  clear c8
  obtain ⟨ji9, hji9⟩ : ∃ j_ : Int, (shl .i64 a1 (ji7)) = j_ := ⟨_, rfl⟩
  first | rw [hji9] at H | simp only [hji9] at H | skip
  (try rw [hji9] at A4)
  (try rw [hji9] at A6)
  have hji9_ : (IntKind.i64.wrap (a1 * 2 ^ min (ji7).toNat 64)) = ji9 := hji9
  have hji9z : (ji7) ≤ 64 → (IntKind.i64.wrap (a1 * 2 ^ (ji7).toNat)) = ji9 := shl_small hji9
  have hji9y : (wrap64 (a1 * 2 ^ min (ji7).toNat 64)) = ji9 := (i64_w _).symm.trans hji9_
  have hji9x : (ji7) ≤ 64 → (wrap64 (a1 * 2 ^ (ji7).toNat)) = ji9 := fun h_ => (i64_w _).symm.trans (hji9z h_)
  replace H' := Aq.mk H
  clear H
  go_wp2_with (first | ((with_reducible refine gQc (f := 73) rfl ?_); refine goesL_ (some 9) rfl rfl Try.func73 (by kernel_rfl) rfl #[.int .i64 x0_1] rfl tL ?_; (with_reducible refine (impl_degreeOf.calls k1 x0_1 t179 _ A4.out).mono ?_); rintro e w' ⟨rfl, ⟨nd, rfl⟩⟩; refine ⟨_, rfl, ?_⟩) | ((with_reducible refine gQc (f := 73) rfl ?_); refine goesL_ (some 15) rfl rfl Try.func73 (by kernel_rfl) rfl #[.int .i64 x0_1] rfl tL ?_; (with_reducible refine (impl_degreeOf.calls k1 x0_1 t180 _ A6.out).mono ?_); rintro e w' ⟨rfl, ⟨nd, rfl⟩⟩; refine ⟨_, rfl, ?_⟩))
  go_roundg k1
  case measure => have := HK1.out; omega
  case rel => exact ⟨(Go.bits .xor .i64 x0_1 (ji9)), (by first | rfl | (simp; done) | (simp only [← hji9] <;> (first | rfl | simp)) | (simp [*]; done)), H', ⟨by have := HK1.out; omega⟩, tD⟩
mutual
def impl_IsIrreducible.j0 : Nat → Int → Bool → Option (Bool)
  | 0, _, _ => none
  | k + 1, x0, x9 => if x9 = true then (some false) else (impl_IsIrreducible.l0 k x0 2)
def impl_IsIrreducible.l0 : Nat → Int → Int → Option (Bool)
  | 0, _, _ => none
  | k + 1, x0, x3 => (impl_degreeOf.f k x3).bind fun t181 => ((impl_degreeOf.f k x0).bind fun t182 => (if (wrap64 (2 * t181)) ≤ t182 then ((impl_restOf.f k x0 x3).bind fun t183 => (if t183 = 0 then (some false) else (impl_IsIrreducible.l0 k x0 (wrap64 (x3 + 1))))) else (some true)))
end
def impl_IsIrreducible.f (k : Nat) (a0 : Int) : Option (Bool) := if a0 < 2 then (impl_IsIrreducible.j0 k a0 true) else (impl_IsIrreducible.j0 k a0 (decide (a0 ≥ 64)))
theorem impl_IsIrreducible.mono_l : ∀ k, (∀ y0 y1, LeO (impl_IsIrreducible.j0 k y0 y1) (impl_IsIrreducible.j0 (k + 1) y0 y1)) ∧ (∀ y0 y1, LeO (impl_IsIrreducible.l0 k y0 y1) (impl_IsIrreducible.l0 (k + 1) y0 y1))
 | 0 => ⟨fun _ _ r h => by simp [impl_IsIrreducible.j0] at h, fun _ _ r h => by simp [impl_IsIrreducible.l0] at h⟩
 | k + 1 => by
  obtain ⟨ih0, ih1⟩ := impl_IsIrreducible.mono_l k
  refine ⟨?_, ?_⟩ <;> intros <;> first | unfold impl_IsIrreducible.j0 | unfold impl_IsIrreducible.l0
  all_goals repeat' first
   | (with_reducible first | apply ih0 | apply ih1 | apply impl_degreeOf.mono | apply impl_restOf.mono | exact LeO.refl _ | exact LeO.none _ | refine LeO.ite ?_ ?_ | refine LeO.bind ?_ (fun _ => ?_))
   | exact LeO.none _
   | refine LeO.ite ?_ ?_
   | refine LeO.bind ?_ (fun _ => ?_)
theorem impl_IsIrreducible.mono : ∀ a0 k, LeO (impl_IsIrreducible.f k a0) (impl_IsIrreducible.f (k + 1) a0) := by
 intro a0 k
 obtain ⟨ih0, ih1⟩ := impl_IsIrreducible.mono_l k
 unfold impl_IsIrreducible.f
 repeat' first
  | (with_reducible first | apply ih0 | apply ih1 | apply impl_degreeOf.mono | apply impl_restOf.mono | exact LeO.refl _ | exact LeO.none _ | refine LeO.ite ?_ ?_ | refine LeO.bind ?_ (fun _ => ?_))
  | exact LeO.none _
  | refine LeO.ite ?_ ?_
  | refine LeO.bind ?_ (fun _ => ?_)
theorem impl_IsIrreducible.calls (k : Nat) (a0 : Int) (r : Bool) (w : World) (h : impl_IsIrreducible.f k a0 = some r) :
 Calls Try.prog 72 #[.int .i64 a0] w fun e w' => e = .returned (.bool r) ∧ Dq w w' := by
 have H : (if a0 < 2 then (impl_IsIrreducible.j0 k a0 true) else (impl_IsIrreducible.j0 k a0 (decide (a0 ≥ 64)))) = some r := h
 clear h
 have HC2 := Aq.mk H
 clear H
 go_enter Try.func72, Try.ntmps72
 go_upto_region 1 with (fail)
 go_cut [9] (fun v9 wc => ∃ (kq : Nat) (x9_1 : Bool), v9 = .bool x9_1 ∧ Aq (impl_IsIrreducible.j0 kq a0 x9_1 = some r) ∧ Aq (kq ≤ k) ∧ Dq w wc)
 case first =>
  have H := HC2.out
  clear HC2
  by_cases c3 : a0 < 2
  ·rw [if_pos c3] at H
   have c3b0 := decide_eq_true c3
   clear c3
   (first | rw [c3b0] | (simp only [i64_w, i32_w]; rw [c3b0]) | skip)
   replace H' := Aq.mk H
   clear H
   go_wp2
   go_meet
   case rel => exact ⟨_, (true), tS, H', ⟨tO⟩, tD⟩
  rw [if_neg c3] at H
  have c3b0 := decide_eq_false c3
  clear c3
  (first | rw [c3b0] | (simp only [i64_w, i32_w]; rw [c3b0]) | skip)
  replace H' := Aq.mk H
  clear H
  go_wp2
  go_meet
  case rel => exact ⟨_, (decide (a0 ≥ 64)), tS, H', ⟨tO⟩, tD⟩
 clear HC2
 try clear c3
 try clear c3b0
 obtain ⟨kq, x9_1, rfl, HA, HJ1, ⟨mc1, rfl⟩⟩ := hcut
 cases kq with
 | zero => exact absurd HA.out (by simp [impl_IsIrreducible.j0])
 | succ kj1 =>
  have H := HA.out
  clear HA
  simp only [impl_IsIrreducible.j0] at H
  by_cases c4 : x9_1 = true
  ·subst c4
   rw [if_pos rfl] at H
   obtain rfl := Option.some.inj H
   go_wp2
   go_ret
   exact ⟨tS, tD⟩
  replace c4 := Bool.eq_false_iff.mpr c4
  subst c4
  rw [if_neg (show ¬ (false = true) by decide)] at H
  replace H' := Aq.mk H
  clear H
  go_wp2
  go_loopg [3] kj1 (fun kq v3 w' => ∃ (x3_2 : Int), v3 = .int .i64 x3_2 ∧ Aq (impl_IsIrreducible.l0 kq a0 x3_2 = some r) ∧ Aq (kq ≤ kj1) ∧ Dq w w')
  case atStart => exact ⟨(2), tS, H', ⟨Nat.le_refl _⟩, tD⟩
  clear H'
  try clear c3
  try clear c3b0
  try clear c4
  obtain ⟨x3_2, rfl, HA, HK2, ⟨m2, rfl⟩⟩ := hrel
  cases gk with
  | zero => exact absurd HA.out (by simp [impl_IsIrreducible.l0])
  | succ k2 =>
   have H := HA.out
   clear HA
   simp only [impl_IsIrreducible.l0] at H
   obtain ⟨t181, A5, H⟩ := qBd H
   obtain ⟨t182, A6, H⟩ := qBd H
   by_cases c7 : (wrap64 (2 * t181)) ≤ t182
   rotate_left
   ·rw [if_neg c7] at H
    have c7b0 := decide_eq_false c7
    clear c7
    obtain rfl := Option.some.inj H
    go_wp2_with (first | ((with_reducible refine gQc (f := 73) rfl ?_); refine goesL_ (some 11) rfl rfl Try.func73 (by kernel_rfl) rfl #[.int .i64 x3_2] rfl tL ?_; (with_reducible refine (impl_degreeOf.calls k2 x3_2 t181 _ A5.out).mono ?_); rintro e w' ⟨rfl, ⟨nd, rfl⟩⟩; refine ⟨_, rfl, ?_⟩) | ((with_reducible refine gQc (f := 73) rfl ?_); refine goesL_ (some 14) rfl rfl Try.func73 (by kernel_rfl) rfl #[.int .i64 a0] rfl tL ?_; (with_reducible refine (impl_degreeOf.calls k2 a0 t182 _ A6.out).mono ?_); rintro e w' ⟨rfl, ⟨nd, rfl⟩⟩; refine ⟨_, rfl, ?_⟩))
    go_ret
    exact ⟨tS, tD⟩
   rw [if_pos c7] at H
   have c7b0 := decide_eq_true c7
   clear c7
   obtain ⟨t183, A8, H⟩ := qBd H
   by_cases c9 : t183 = 0
   ·rw [if_pos c9] at H
    have c9b0 := beq_iff_eq.mpr c9
    have c9b1 := bne_eq_false_iff_eq.mpr c9
    clear c9
    obtain rfl := Option.some.inj H
    go_wp2_with (first | ((with_reducible refine gQc (f := 73) rfl ?_); refine goesL_ (some 11) rfl rfl Try.func73 (by kernel_rfl) rfl #[.int .i64 x3_2] rfl tL ?_; (with_reducible refine (impl_degreeOf.calls k2 x3_2 t181 _ A5.out).mono ?_); rintro e w' ⟨rfl, ⟨nd, rfl⟩⟩; refine ⟨_, rfl, ?_⟩) | ((with_reducible refine gQc (f := 73) rfl ?_); refine goesL_ (some 14) rfl rfl Try.func73 (by kernel_rfl) rfl #[.int .i64 a0] rfl tL ?_; (with_reducible refine (impl_degreeOf.calls k2 a0 t182 _ A6.out).mono ?_); rintro e w' ⟨rfl, ⟨nd, rfl⟩⟩; refine ⟨_, rfl, ?_⟩) | ((with_reducible refine gQc (f := 75) rfl ?_); refine goesL_ (some 20) rfl rfl Try.func75 (by kernel_rfl) rfl #[.int .i64 a0, .int .i64 x3_2] rfl tL ?_; (with_reducible refine (impl_restOf.calls k2 a0 x3_2 t183 _ A8.out).mono ?_); rintro e w' ⟨rfl, ⟨nd, rfl⟩⟩; refine ⟨_, rfl, ?_⟩))
    go_ret
    exact ⟨tS, tD⟩
   rw [if_neg c9] at H
   have c9b0 := beq_eq_false_iff_ne.mpr c9
   have c9b1 := bne_iff_ne.mpr c9
   replace H' := Aq.mk H
   clear H
   go_wp2_with (first | ((with_reducible refine gQc (f := 73) rfl ?_); refine goesL_ (some 11) rfl rfl Try.func73 (by kernel_rfl) rfl #[.int .i64 x3_2] rfl tL ?_; (with_reducible refine (impl_degreeOf.calls k2 x3_2 t181 _ A5.out).mono ?_); rintro e w' ⟨rfl, ⟨nd, rfl⟩⟩; refine ⟨_, rfl, ?_⟩) | ((with_reducible refine gQc (f := 73) rfl ?_); refine goesL_ (some 14) rfl rfl Try.func73 (by kernel_rfl) rfl #[.int .i64 a0] rfl tL ?_; (with_reducible refine (impl_degreeOf.calls k2 a0 t182 _ A6.out).mono ?_); rintro e w' ⟨rfl, ⟨nd, rfl⟩⟩; refine ⟨_, rfl, ?_⟩) | ((with_reducible refine gQc (f := 75) rfl ?_); refine goesL_ (some 20) rfl rfl Try.func75 (by kernel_rfl) rfl #[.int .i64 a0, .int .i64 x3_2] rfl tL ?_; (with_reducible refine (impl_restOf.calls k2 a0 x3_2 t183 _ A8.out).mono ?_); rintro e w' ⟨rfl, ⟨nd, rfl⟩⟩; refine ⟨_, rfl, ?_⟩))
   go_roundg k2
   case measure => have := HJ1.out; have := HK2.out; omega
   case rel => exact ⟨(wrap64 (x3_2 + 1)), tS, H', ⟨by have := HJ1.out; have := HK2.out; omega⟩, tD⟩
def impl_ValidField.f (k : Nat) (a0_0 : Int) (a0_1 : Int) : Option (Bool) := (impl_within.f a0_0 1 5).bind fun t185 => (if t185 = true then ((impl_IsIrreducible.f k a0_1).bind fun t186 => (if t186 = true then ((impl_degreeOf.f k a0_1).bind fun t187 => (some (t187 == a0_0))) else (some false))) else (some false))
theorem impl_ValidField.mono : ∀ a0 a1 k, LeO (impl_ValidField.f k a0 a1) (impl_ValidField.f (k + 1) a0 a1) := by
 intro a0 a1 k
 unfold impl_ValidField.f
 repeat' first
  | (with_reducible first | apply impl_IsIrreducible.mono | apply impl_degreeOf.mono | exact LeO.refl _ | exact LeO.none _ | refine LeO.ite ?_ ?_ | refine LeO.bind ?_ (fun _ => ?_))
  | exact LeO.none _
  | refine LeO.ite ?_ ?_
  | refine LeO.bind ?_ (fun _ => ?_)
theorem impl_ValidField.calls (k : Nat) (a0_0 : Int) (a0_1 : Int) (r : Bool) (w : World) (h : impl_ValidField.f k a0_0 a0_1 = some r) :
 Calls Try.prog 52 #[.agg #[.int .i64 a0_0, .int .i64 a0_1]] w fun e w' => e = .returned (.bool r) ∧ Below w.heap.size w w' := by
 have hu27 := Try.underlying27
 have HB := Aq.mk (Below.refl w.heap.size w)
 have H : ((impl_within.f a0_0 1 5).bind fun t185 => (if t185 = true then ((impl_IsIrreducible.f k a0_1).bind fun t186 => (if t186 = true then ((impl_degreeOf.f k a0_1).bind fun t187 => (some (t187 == a0_0))) else (some false))) else (some false))) = some r := h
 clear h
 obtain ⟨t185, A2, H⟩ := qBd H
 by_cases c3 : t185 = true
 rotate_left
 ·replace c3 := Bool.eq_false_iff.mpr c3
  subst c3
  rw [if_neg (show ¬ (false = true) by decide)] at H
  obtain rfl := Option.some.inj H
  go_enter Try.func52, Try.ntmps52
  go_wp2_with (first | ((with_reducible refine gQd (N := 1) rfl ?_); refine xQe ?hg (N := 1) ?hd (cs := #[.int .i64 a0_0, .int .i64 a0_1]) (t := 27) ?hr ?_; (case hd => rfl); (case hg => rfl); (case hr => exact tH); intro gb184 hg w11 hbox hb; refine qM4 (bQT tB hb) hbox (tZ w hg) (tZ w hg) ?_; clear HB; intro HB BK184 GW184 GE184; clear hb hbox hg; have hcz12_0 : w11.cell? ⟨gb184, 0, none⟩ = some (.int .i64 a0_0) := (kQC BK184.out 0).trans rfl; have hcz12_1 : w11.cell? ⟨gb184, 1, none⟩ = some (.int .i64 a0_1) := (kQC BK184.out 1).trans rfl; have hfz12_0 := kQF BK184.out 0; have hfz12_1 := kQF BK184.out 1) | (go_at_call 71; (with_reducible refine (impl_within.calls a0_0 1 5 false _ A2.out).mono ?_); rintro e w' ⟨rfl, ⟨nd, rfl⟩⟩; (try exact tW)))
  repeat (go_quiet (first | ((with_reducible refine gQd (N := 1) rfl ?_); refine xQe ?hg (N := 1) ?hd (cs := #[.int .i64 a0_0, .int .i64 a0_1]) (t := 27) ?hr ?_; (case hd => rfl); (case hg => rfl); (case hr => exact tH); intro gb184 hg w11 hbox hb; refine qM4 (bQT tB hb) hbox (tZ w hg) (tZ w hg) ?_; clear HB; intro HB BK184 GW184 GE184; clear hb hbox hg; have hcz12_0 : w11.cell? ⟨gb184, 0, none⟩ = some (.int .i64 a0_0) := (kQC BK184.out 0).trans rfl; have hcz12_1 : w11.cell? ⟨gb184, 1, none⟩ = some (.int .i64 a0_1) := (kQC BK184.out 1).trans rfl; have hfz12_0 := kQF BK184.out 0; have hfz12_1 := kQF BK184.out 1) | (go_at_call 71; (with_reducible refine (impl_within.calls a0_0 1 5 false _ A2.out).mono ?_); rintro e w' ⟨rfl, ⟨nd, rfl⟩⟩; (try exact tW))); try go_wp2_with (first | ((with_reducible refine gQd (N := 1) rfl ?_); refine xQe ?hg (N := 1) ?hd (cs := #[.int .i64 a0_0, .int .i64 a0_1]) (t := 27) ?hr ?_; (case hd => rfl); (case hg => rfl); (case hr => exact tH); intro gb184 hg w11 hbox hb; refine qM4 (bQT tB hb) hbox (tZ w hg) (tZ w hg) ?_; clear HB; intro HB BK184 GW184 GE184; clear hb hbox hg; have hcz12_0 : w11.cell? ⟨gb184, 0, none⟩ = some (.int .i64 a0_0) := (kQC BK184.out 0).trans rfl; have hcz12_1 : w11.cell? ⟨gb184, 1, none⟩ = some (.int .i64 a0_1) := (kQC BK184.out 1).trans rfl; have hfz12_0 := kQF BK184.out 0; have hfz12_1 := kQF BK184.out 1) | (go_at_call 71; (with_reducible refine (impl_within.calls a0_0 1 5 false _ A2.out).mono ?_); rintro e w' ⟨rfl, ⟨nd, rfl⟩⟩; (try exact tW))))
  go_ret
  exact ⟨tE, tB⟩
 subst c3
 rw [if_pos rfl] at H
 obtain ⟨t186, A4, H⟩ := qBd H
 by_cases c5 : t186 = true
 ·subst c5
  rw [if_pos rfl] at H
  obtain ⟨t187, A6, H⟩ := qBd H
  obtain rfl := Option.some.inj H
  go_enter Try.func52, Try.ntmps52
  go_wp2_with (first | ((with_reducible refine gQd (N := 1) rfl ?_); refine xQe ?hg (N := 1) ?hd (cs := #[.int .i64 a0_0, .int .i64 a0_1]) (t := 27) ?hr ?_; (case hd => rfl); (case hg => rfl); (case hr => exact tH); intro gb184 hg w7 hbox hb; refine qM4 (bQT tB hb) hbox (tZ w hg) (tZ w hg) ?_; clear HB; intro HB BK184 GW184 GE184; clear hb hbox hg; have hcz8_0 : w7.cell? ⟨gb184, 0, none⟩ = some (.int .i64 a0_0) := (kQC BK184.out 0).trans rfl; have hcz8_1 : w7.cell? ⟨gb184, 1, none⟩ = some (.int .i64 a0_1) := (kQC BK184.out 1).trans rfl; have hfz8_0 := kQF BK184.out 0; have hfz8_1 := kQF BK184.out 1) | (go_at_call 71; (with_reducible refine (impl_within.calls a0_0 1 5 true _ A2.out).mono ?_); rintro e w' ⟨rfl, ⟨nd, rfl⟩⟩; (try exact tW)) | (go_at_call 72; (with_reducible refine (impl_IsIrreducible.calls k a0_1 true _ A4.out).mono ?_); rintro e w' ⟨rfl, ⟨nd, rfl⟩⟩; (try exact tW)) | (go_at_call 73; (with_reducible refine (impl_degreeOf.calls k a0_1 t187 _ A6.out).mono ?_); rintro e w' ⟨rfl, ⟨nd, rfl⟩⟩; (try exact tW)))
  repeat (go_quiet (first | ((with_reducible refine gQd (N := 1) rfl ?_); refine xQe ?hg (N := 1) ?hd (cs := #[.int .i64 a0_0, .int .i64 a0_1]) (t := 27) ?hr ?_; (case hd => rfl); (case hg => rfl); (case hr => exact tH); intro gb184 hg w7 hbox hb; refine qM4 (bQT tB hb) hbox (tZ w hg) (tZ w hg) ?_; clear HB; intro HB BK184 GW184 GE184; clear hb hbox hg; have hcz8_0 : w7.cell? ⟨gb184, 0, none⟩ = some (.int .i64 a0_0) := (kQC BK184.out 0).trans rfl; have hcz8_1 : w7.cell? ⟨gb184, 1, none⟩ = some (.int .i64 a0_1) := (kQC BK184.out 1).trans rfl; have hfz8_0 := kQF BK184.out 0; have hfz8_1 := kQF BK184.out 1) | (go_at_call 71; (with_reducible refine (impl_within.calls a0_0 1 5 true _ A2.out).mono ?_); rintro e w' ⟨rfl, ⟨nd, rfl⟩⟩; (try exact tW)) | (go_at_call 72; (with_reducible refine (impl_IsIrreducible.calls k a0_1 true _ A4.out).mono ?_); rintro e w' ⟨rfl, ⟨nd, rfl⟩⟩; (try exact tW)) | (go_at_call 73; (with_reducible refine (impl_degreeOf.calls k a0_1 t187 _ A6.out).mono ?_); rintro e w' ⟨rfl, ⟨nd, rfl⟩⟩; (try exact tW))); try go_wp2_with (first | ((with_reducible refine gQd (N := 1) rfl ?_); refine xQe ?hg (N := 1) ?hd (cs := #[.int .i64 a0_0, .int .i64 a0_1]) (t := 27) ?hr ?_; (case hd => rfl); (case hg => rfl); (case hr => exact tH); intro gb184 hg w7 hbox hb; refine qM4 (bQT tB hb) hbox (tZ w hg) (tZ w hg) ?_; clear HB; intro HB BK184 GW184 GE184; clear hb hbox hg; have hcz8_0 : w7.cell? ⟨gb184, 0, none⟩ = some (.int .i64 a0_0) := (kQC BK184.out 0).trans rfl; have hcz8_1 : w7.cell? ⟨gb184, 1, none⟩ = some (.int .i64 a0_1) := (kQC BK184.out 1).trans rfl; have hfz8_0 := kQF BK184.out 0; have hfz8_1 := kQF BK184.out 1) | (go_at_call 71; (with_reducible refine (impl_within.calls a0_0 1 5 true _ A2.out).mono ?_); rintro e w' ⟨rfl, ⟨nd, rfl⟩⟩; (try exact tW)) | (go_at_call 72; (with_reducible refine (impl_IsIrreducible.calls k a0_1 true _ A4.out).mono ?_); rintro e w' ⟨rfl, ⟨nd, rfl⟩⟩; (try exact tW)) | (go_at_call 73; (with_reducible refine (impl_degreeOf.calls k a0_1 t187 _ A6.out).mono ?_); rintro e w' ⟨rfl, ⟨nd, rfl⟩⟩; (try exact tW))))
  go_ret
  exact ⟨tE, tB⟩
 replace c5 := Bool.eq_false_iff.mpr c5
 subst c5
 rw [if_neg (show ¬ (false = true) by decide)] at H
 obtain rfl := Option.some.inj H
 go_enter Try.func52, Try.ntmps52
 go_wp2_with (first | ((with_reducible refine gQd (N := 1) rfl ?_); refine xQe ?hg (N := 1) ?hd (cs := #[.int .i64 a0_0, .int .i64 a0_1]) (t := 27) ?hr ?_; (case hd => rfl); (case hg => rfl); (case hr => exact tH); intro gb184 hg w9 hbox hb; refine qM4 (bQT tB hb) hbox (tZ w hg) (tZ w hg) ?_; clear HB; intro HB BK184 GW184 GE184; clear hb hbox hg; have hcz10_0 : w9.cell? ⟨gb184, 0, none⟩ = some (.int .i64 a0_0) := (kQC BK184.out 0).trans rfl; have hcz10_1 : w9.cell? ⟨gb184, 1, none⟩ = some (.int .i64 a0_1) := (kQC BK184.out 1).trans rfl; have hfz10_0 := kQF BK184.out 0; have hfz10_1 := kQF BK184.out 1) | (go_at_call 71; (with_reducible refine (impl_within.calls a0_0 1 5 true _ A2.out).mono ?_); rintro e w' ⟨rfl, ⟨nd, rfl⟩⟩; (try exact tW)) | (go_at_call 72; (with_reducible refine (impl_IsIrreducible.calls k a0_1 false _ A4.out).mono ?_); rintro e w' ⟨rfl, ⟨nd, rfl⟩⟩; (try exact tW)))
 repeat (go_quiet (first | ((with_reducible refine gQd (N := 1) rfl ?_); refine xQe ?hg (N := 1) ?hd (cs := #[.int .i64 a0_0, .int .i64 a0_1]) (t := 27) ?hr ?_; (case hd => rfl); (case hg => rfl); (case hr => exact tH); intro gb184 hg w9 hbox hb; refine qM4 (bQT tB hb) hbox (tZ w hg) (tZ w hg) ?_; clear HB; intro HB BK184 GW184 GE184; clear hb hbox hg; have hcz10_0 : w9.cell? ⟨gb184, 0, none⟩ = some (.int .i64 a0_0) := (kQC BK184.out 0).trans rfl; have hcz10_1 : w9.cell? ⟨gb184, 1, none⟩ = some (.int .i64 a0_1) := (kQC BK184.out 1).trans rfl; have hfz10_0 := kQF BK184.out 0; have hfz10_1 := kQF BK184.out 1) | (go_at_call 71; (with_reducible refine (impl_within.calls a0_0 1 5 true _ A2.out).mono ?_); rintro e w' ⟨rfl, ⟨nd, rfl⟩⟩; (try exact tW)) | (go_at_call 72; (with_reducible refine (impl_IsIrreducible.calls k a0_1 false _ A4.out).mono ?_); rintro e w' ⟨rfl, ⟨nd, rfl⟩⟩; (try exact tW))); try go_wp2_with (first | ((with_reducible refine gQd (N := 1) rfl ?_); refine xQe ?hg (N := 1) ?hd (cs := #[.int .i64 a0_0, .int .i64 a0_1]) (t := 27) ?hr ?_; (case hd => rfl); (case hg => rfl); (case hr => exact tH); intro gb184 hg w9 hbox hb; refine qM4 (bQT tB hb) hbox (tZ w hg) (tZ w hg) ?_; clear HB; intro HB BK184 GW184 GE184; clear hb hbox hg; have hcz10_0 : w9.cell? ⟨gb184, 0, none⟩ = some (.int .i64 a0_0) := (kQC BK184.out 0).trans rfl; have hcz10_1 : w9.cell? ⟨gb184, 1, none⟩ = some (.int .i64 a0_1) := (kQC BK184.out 1).trans rfl; have hfz10_0 := kQF BK184.out 0; have hfz10_1 := kQF BK184.out 1) | (go_at_call 71; (with_reducible refine (impl_within.calls a0_0 1 5 true _ A2.out).mono ?_); rintro e w' ⟨rfl, ⟨nd, rfl⟩⟩; (try exact tW)) | (go_at_call 72; (with_reducible refine (impl_IsIrreducible.calls k a0_1 false _ A4.out).mono ?_); rintro e w' ⟨rfl, ⟨nd, rfl⟩⟩; (try exact tW))))
 go_ret
 exact ⟨tE, tB⟩
def impl_Field_count.f (a0_0 : Int) (a0_1 : Int) : Option (Int) := if 0 ≤ a0_0 then (some (shl .i64 1 a0_0)) else (none)
theorem impl_Field_count.calls (a0_0 : Int) (a0_1 : Int) (r : Int) (w : World) (h : impl_Field_count.f a0_0 a0_1 = some r) :
 Calls Try.prog 79 #[.agg #[.int .i64 a0_0, .int .i64 a0_1]] w fun e w' => e = .returned (.int .i64 r) ∧ Below w.heap.size w w' := by
 have hu27 := Try.underlying27
 have HB := Aq.mk (Below.refl w.heap.size w)
 have H : (if 0 ≤ a0_0 then (some (shl .i64 1 a0_0)) else (none)) = some r := h
 clear h
 by_cases c2 : 0 ≤ a0_0
 rotate_left
 ·rw [if_neg c2] at H
  exact absurd H (by simp)
 rw [if_pos c2] at H
 have c2b0 := eq_true c2
 have c2b1 := decide_eq_true c2
 clear c2
 obtain ⟨ji3, hji3⟩ : ∃ j_ : Int, (shl .i64 1 a0_0) = j_ := ⟨_, rfl⟩
 first | rw [hji3] at H | simp only [hji3] at H | skip
 have hji3_ : (IntKind.i64.wrap (1 * 2 ^ min a0_0.toNat 64)) = ji3 := hji3
 have hji3z : a0_0 ≤ 64 → (IntKind.i64.wrap (1 * 2 ^ a0_0.toNat)) = ji3 := shl_small hji3
 have hji3u : (IntKind.i64.wrap (2 ^ min a0_0.toNat 64)) = ji3 := by have h_ := hji3_; rw [Int.one_mul] at h_; exact h_
 have hji3v : a0_0 ≤ 64 → (IntKind.i64.wrap (2 ^ a0_0.toNat)) = ji3 := fun hle_ => by have h_ := hji3z hle_; rw [Int.one_mul] at h_; exact h_
 have hji3y : (wrap64 (1 * 2 ^ min a0_0.toNat 64)) = ji3 := (i64_w _).symm.trans hji3_
 have hji3x : a0_0 ≤ 64 → (wrap64 (1 * 2 ^ a0_0.toNat)) = ji3 := fun h_ => (i64_w _).symm.trans (hji3z h_)
 obtain rfl := Option.some.inj H
 go_enter Try.func79, Try.ntmps79
 go_wp2_with (first | ((with_reducible refine gQd (N := 1) rfl ?_); refine xQe ?hg (N := 1) ?hd (cs := #[.int .i64 a0_0, .int .i64 a0_1]) (t := 27) ?hr ?_; (case hd => rfl); (case hg => rfl); (case hr => exact tH); intro gb188 hg w4 hbox hb; refine qM4 (bQT tB hb) hbox (tZ w hg) (tZ w hg) ?_; clear HB; intro HB BK188 GW188 GE188; clear hb hbox hg; have hcz5_0 : w4.cell? ⟨gb188, 0, none⟩ = some (.int .i64 a0_0) := (kQC BK188.out 0).trans rfl; have hcz5_1 : w4.cell? ⟨gb188, 1, none⟩ = some (.int .i64 a0_1) := (kQC BK188.out 1).trans rfl; have hfz5_0 := kQF BK188.out 0; have hfz5_1 := kQF BK188.out 1))
 go_ret
 exact ⟨by first | rfl | (simp [errW_none, errW_some] <;> rfl) | (simp only [← hji3]; first | rfl | (simp [errW_none, errW_some] <;> rfl)) | (simp [*, errW_none, errW_some] <;> rfl), tB⟩
def impl_Field_has_1.f (a0 : Int) (a1_0 : Int) (a1_1 : Int) : Option (Bool) := (impl_Field_count.f a1_0 a1_1).bind fun t189 => ((impl_within.f a0 0 (wrap64 (t189 - 1))).bind fun t190 => (some (!t190)))
theorem impl_Field_has_1.calls (a0 : Int) (g1_0 : Addr) (a1_0 : Int) (a1_1 : Int) (r : Bool) (w : World) (hb1_0 : AtC w g1_0 [.int .i64 a1_0, .int .i64 a1_1]) (h : impl_Field_has_1.f a0 a1_0 a1_1 = some r) :
 Calls Try.prog 78 #[.int .i64 a0, .pointer (some g1_0)] w fun e w' => e = .returned (.bool r) ∧ Below w.heap.size w w' := by
 have hu27 := Try.underlying27
 have BK48 := Aq.mk hb1_0
 clear hb1_0
 have HB := Aq.mk (Below.refl w.heap.size w)
 have H : ((impl_Field_count.f a1_0 a1_1).bind fun t189 => ((impl_within.f a0 0 (wrap64 (t189 - 1))).bind fun t190 => (some (!t190)))) = some r := h
 clear h
 obtain ⟨t189, A3, H⟩ := qBd H
 obtain ⟨t190, A4, H⟩ := qBd H
 obtain rfl := Option.some.inj H
 have hcz5_0 : w.cell? g1_0 = some (.int .i64 a1_0) := AtC.cell0 BK48.out _ rfl
 have hcz5_1 : w.cell? ⟨g1_0.block, g1_0.off + 1, none⟩ = some (.int .i64 a1_1) := AtC.cell BK48.out 1 _ (by decide) rfl
 go_enter Try.func78, Try.ntmps78
 go_wp2_with (first | ((with_reducible refine gQc (f := 79) rfl ?_); refine goesL_ (some 6) rfl rfl Try.func79 (by kernel_rfl) rfl #[.agg #[.int .i64 a1_0, .int .i64 a1_1]] rfl tL ?_; (with_reducible refine (impl_Field_count.calls a1_0 a1_1 t189 _ A3.out).mono ?_); rintro e w6 ⟨rfl, hb⟩; refine ⟨_, rfl, ?_⟩; refine qM1 (bQT tB hb) ?_; clear HB; intro HB; (try clear hb); (try clear hb2); (try clear hk); (try clear hi)) | ((with_reducible refine gQc (f := 71) rfl ?_); refine goesL_ (some 8) rfl rfl Try.func71 (by kernel_rfl) rfl #[.int .i64 a0, .int .i64 0, .int .i64 (wrap64 (t189 - 1))] rfl tL ?_; (with_reducible refine (impl_within.calls a0 0 (wrap64 (t189 - 1)) t190 _ A4.out).mono ?_); rintro e w' ⟨rfl, ⟨nd, rfl⟩⟩; refine ⟨_, rfl, ?_⟩))
 go_ret
 exact ⟨tE, tB⟩
end Go.Proofs.Ytpigghpimgkilaa.P
