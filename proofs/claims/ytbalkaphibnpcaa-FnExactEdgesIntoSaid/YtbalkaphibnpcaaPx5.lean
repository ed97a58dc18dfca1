/- Functions of the program and what they tell, as the printing program wrote it. -/
import Derived.Test.YtbalkaphibnpcaaPx0
import Derived.Test.YtbalkaphibnpcaaPx1
namespace Go.Proofs.Ytbalkaphibnpcaa.P
open Go.Shelf Go.RowKit Go.Proofs.YtbalkaphibnpcaaW.PrintWords Go.Proofs.YtbalkaphibnpcaaW.PrintLast Go.Proofs.YtbalkaphibnpcaaW.PrintMore
attribute [local go_sem] max2_int min2_int max_two min_two max_three min_three max_four min_four
set_option linter.unusedVariables false
set_option linter.unusedSimpArgs false
set_option maxHeartbeats 8000000
set_option maxRecDepth 100000
def laws_szInt64SS.l0 : Nat → List (List Int) → Int → Int → Option (Int)
  | 0, _, _, _ => none
  | k + 1, x0, x1, x5 => if x5 < (x0.length : Int) then (if 0 ≤ x5 then ((laws_szInt64S.f (rd_L1 x0 x5) x1).bind fun t102 => (if t102 < 0 then (some (-1)) else (laws_szInt64SS.l0 k x0 t102 (wrap64 (x5 + 1))))) else (none)) else (some x1)
def laws_szInt64SS.f (k : Nat) (l0 : List (List Int)) (a1 : Int) : Option (Int) := if (wrap64 (a1 - (l0.length : Int))) < 0 then (some (-1)) else (laws_szInt64SS.l0 k l0 (wrap64 (a1 - (l0.length : Int))) 0)
theorem laws_szInt64SS.mono_l : ∀ k, (∀ y0 y1 y2, LeO (laws_szInt64SS.l0 k y0 y1 y2) (laws_szInt64SS.l0 (k + 1) y0 y1 y2))
 | 0 => fun _ _ _ r h => by simp [laws_szInt64SS.l0] at h
 | k + 1 => by
  have ih0 := laws_szInt64SS.mono_l k
  ·intro y0 y1 y2
   unfold laws_szInt64SS.l0
   repeat' first
   | (with_reducible first | apply ih0 | exact LeO.refl _ | exact LeO.none _ | refine LeO.ite ?_ ?_ | refine LeO.bind ?_ (fun _ => ?_))
   | exact LeO.none _
   | refine LeO.ite ?_ ?_
   | refine LeO.bind ?_ (fun _ => ?_)
theorem laws_szInt64SS.mono : ∀ a0 a1 k, LeO (laws_szInt64SS.f k a0 a1) (laws_szInt64SS.f (k + 1) a0 a1) := by
 intro a0 a1 k
 have ih0 := laws_szInt64SS.mono_l k
 unfold laws_szInt64SS.f
 repeat' first
  | (with_reducible first | apply ih0 | exact LeO.refl _ | exact LeO.none _ | refine LeO.ite ?_ ?_ | refine LeO.bind ?_ (fun _ => ?_))
  | exact LeO.none _
  | refine LeO.ite ?_ ?_
  | refine LeO.bind ?_ (fun _ => ?_)
theorem laws_szInt64SS.calls (k : Nat) (A0 : Option Addr) (c0 : Nat) (l0 : List (List Int)) (a1 : Int) (r : Int) (w : World) (hr0 : Kd.C (Kd.slice 2 (Kd.int .i64)) w A0 l0.length l0) (hc0 : l0.length ≤ c0) (h : laws_szInt64SS.f k l0 a1 = some r) :
 Calls Try.prog 8 #[.slice A0 l0.length c0, .int .i64 a1] w fun e w' => e = .returned (.int .i64 r) ∧ Dq w w' := by
 have HR0 := Aq.mk hr0
 have HC0 := Aq.mk hc0
 clear hr0 hc0
 have H : (if (wrap64 (a1 - (l0.length : Int))) < 0 then (some (-1)) else (laws_szInt64SS.l0 k l0 (wrap64 (a1 - (l0.length : Int))) 0)) = some r := h
 clear h
 by_cases c3 : (wrap64 (a1 - (l0.length : Int))) < 0
 ·rw [if_pos c3] at H
  have c3b0 := decide_eq_true c3
  clear c3
  obtain rfl := Option.some.inj H
  go_enter Try.func8, Try.ntmps8
  go_wp2
  go_ret
  exact ⟨tS, tD⟩
 rw [if_neg c3] at H
 have c3b0 := decide_eq_false c3
 clear c3
 replace H' := Aq.mk H
 clear H
 go_enter Try.func8, Try.ntmps8
 go_wp2
 go_loopg [1, 5] k (fun kq v1 v5 w' => ∃ (x1_1 : Int) (x5_1 : Int), v1 = .int .i64 x1_1 ∧ v5 = .int .i64 x5_1 ∧ Aq (laws_szInt64SS.l0 kq l0 x1_1 x5_1 = some r) ∧ Aq (kq ≤ k) ∧ Dq w w')
 case atStart => exact ⟨(wrap64 (a1 - (l0.length : Int))), (0), tS, tS, H', ⟨Nat.le_refl _⟩, tD⟩
 clear H'
 try clear c3
 try clear c3b0
 obtain ⟨x1_1, x5_1, rfl, rfl, HA, HK1, ⟨m1, rfl⟩⟩ := hrel
 cases gk with
 | zero => exact absurd HA.out (by simp [laws_szInt64SS.l0])
 | succ k1 =>
  have H := HA.out
  clear HA
  simp only [laws_szInt64SS.l0] at H
  by_cases c4 : x5_1 < (l0.length : Int)
  rotate_left
  ·rw [if_neg c4] at H
   have c4b0 := decide_eq_false c4
   clear c4
   obtain rfl := Option.some.inj H
   go_wp2
   go_ret
   exact ⟨tS, tD⟩
  rw [if_pos c4] at H
  have c4b0 := decide_eq_true c4
  clear c4
  by_cases c5 : 0 ≤ x5_1
  rotate_left
  ·rw [if_neg c5] at H
   exact absurd H (by simp)
  rw [if_pos c5] at H
  have c5b0 := decide_eq_true c5
  clear c5
  obtain ⟨t102, A6, H⟩ := qBd H
  by_cases c7 : t102 < 0
  ·rw [if_pos c7] at H
   have c7b0 := decide_eq_true c7
   clear c7
   obtain rfl := Option.some.inj H
   have p101 : 0 ≤ (x5_1 : Int) := of_decide_eq_true tA
   have q101 : x5_1 < (l0.length : Int) := of_decide_eq_true tA
   obtain ⟨ad101, A101_0, c101_0, e101, hx101_0, hl101_0, hi101_0⟩ := at_L1 HR0.out x5_1 p101 q101
   cases e101
   have HR101_0 := Aq.mk hi101_0
   have HC101_0 := Aq.mk hl101_0
   clear hi101_0 hl101_0
   replace p101 := eq_true p101
   replace q101 := eq_true q101
   go_wp2_with (first | ((with_reducible refine gQc (f := 40) rfl ?_); refine goesL_ (some 23) rfl rfl Try.func40 (by kernel_rfl) rfl #[.slice A101_0 (rd_L1 l0 x5_1).length c101_0, .int .i64 x1_1] rfl tL ?_; (with_reducible refine (laws_szInt64S.calls _ _ (rd_L1 l0 x5_1) x1_1 t102 _ ?s1 ?s2 A6.out).mono ?_); (case s1 => exact tC HR101_0.out); (case s2 => exact HC101_0.out); rintro e w' ⟨rfl, ⟨nd, rfl⟩⟩; refine ⟨_, rfl, ?_⟩))
   go_ret
   exact ⟨tS, tD⟩
  rw [if_neg c7] at H
  have c7b0 := decide_eq_false c7
  clear c7
  replace H' := Aq.mk H
  clear H
  have p101 : 0 ≤ (x5_1 : Int) := of_decide_eq_true tA
  have q101 : x5_1 < (l0.length : Int) := of_decide_eq_true tA
  obtain ⟨ad101, A101_0, c101_0, e101, hx101_0, hl101_0, hi101_0⟩ := at_L1 HR0.out x5_1 p101 q101
  cases e101
  have HR101_0 := Aq.mk hi101_0
  have HC101_0 := Aq.mk hl101_0
  clear hi101_0 hl101_0
  replace p101 := eq_true p101
  replace q101 := eq_true q101
  go_wp2_with (first | ((with_reducible refine gQc (f := 40) rfl ?_); refine goesL_ (some 23) rfl rfl Try.func40 (by kernel_rfl) rfl #[.slice A101_0 (rd_L1 l0 x5_1).length c101_0, .int .i64 x1_1] rfl tL ?_; (with_reducible refine (laws_szInt64S.calls _ _ (rd_L1 l0 x5_1) x1_1 t102 _ ?s1 ?s2 A6.out).mono ?_); (case s1 => exact tC HR101_0.out); (case s2 => exact HC101_0.out); rintro e w' ⟨rfl, ⟨nd, rfl⟩⟩; refine ⟨_, rfl, ?_⟩))
  go_roundg k1
  case measure => have := HK1.out; omega
  case rel => exact ⟨(t102), (wrap64 (x5_1 + 1)), tS, tS, H', ⟨by have := HK1.out; omega⟩, tD⟩
def spec_l01Degree.l0 : Nat → Int → Int → Option (Int)
  | 0, _, _ => none
  | k + 1, x0, x3 => if x0 > 0 then (spec_l01Degree.l0 k (wrap64 (Int.tdiv x0 2)) (wrap64 (x3 + 1))) else (some x3)
def spec_l01Degree.f (k : Nat) (a0 : Int) : Option (Int) := spec_l01Degree.l0 k a0 (-1)
theorem spec_l01Degree.mono_l : ∀ k, (∀ y0 y1, LeO (spec_l01Degree.l0 k y0 y1) (spec_l01Degree.l0 (k + 1) y0 y1))
 | 0 => fun _ _ r h => by simp [spec_l01Degree.l0] at h
 | k + 1 => by
  have ih0 := spec_l01Degree.mono_l k
  ·intro y0 y1
   unfold spec_l01Degree.l0
   repeat' first
   | (with_reducible first | apply ih0 | exact LeO.refl _ | exact LeO.none _ | refine LeO.ite ?_ ?_ | refine LeO.bind ?_ (fun _ => ?_))
   | exact LeO.none _
   | refine LeO.ite ?_ ?_
   | refine LeO.bind ?_ (fun _ => ?_)
theorem spec_l01Degree.mono : ∀ a0 k, LeO (spec_l01Degree.f k a0) (spec_l01Degree.f (k + 1) a0) := by
 intro a0 k
 have ih0 := spec_l01Degree.mono_l k
 unfold spec_l01Degree.f
 repeat' first
  | (with_reducible first | apply ih0 | exact LeO.refl _ | exact LeO.none _ | refine LeO.ite ?_ ?_ | refine LeO.bind ?_ (fun _ => ?_))
  | exact LeO.none _
  | refine LeO.ite ?_ ?_
  | refine LeO.bind ?_ (fun _ => ?_)
theorem spec_l01Degree.calls (k : Nat) (a0 : Int) (r : Int) (w : World) (h : spec_l01Degree.f k a0 = some r) :
 Calls Try.prog 95 #[.int .i64 a0] w fun e w' => e = .returned (.int .i64 r) ∧ Dq w w' := by
 have H : (spec_l01Degree.l0 k a0 (-1)) = some r := h
 clear h
 replace H' := Aq.mk H
 clear H
 go_enter Try.func95, Try.ntmps95
 go_wp2
 go_loopg [0, 3] k (fun kq v0 v3 w' => ∃ (x0_1 : Int) (x3_1 : Int), v0 = .int .i64 x0_1 ∧ v3 = .int .i64 x3_1 ∧ Aq (spec_l01Degree.l0 kq x0_1 x3_1 = some r) ∧ Aq (kq ≤ k) ∧ Dq w w')
 case atStart => exact ⟨(a0), ((-1)), tS, tS, H', ⟨Nat.le_refl _⟩, tD⟩
 clear H'
 obtain ⟨x0_1, x3_1, rfl, rfl, HA, HK1, ⟨m1, rfl⟩⟩ := hrel
 cases gk with
 | zero => exact absurd HA.out (by simp [spec_l01Degree.l0])
 | succ k1 =>
  have H := HA.out
  clear HA
  simp only [spec_l01Degree.l0] at H
  by_cases c2 : x0_1 > 0
  rotate_left
  ·rw [if_neg c2] at H
   have c2b0 := decide_eq_false c2
   clear c2
   obtain rfl := Option.some.inj H
   go_wp2
   go_ret
   exact ⟨tS, tD⟩
  rw [if_pos c2] at H
  have c2b0 := decide_eq_true c2
  clear c2
  replace H' := Aq.mk H
  clear H
  go_wp2
  go_roundg k1
  case measure => have := HK1.out; omega
  case rel => exact ⟨(wrap64 (Int.tdiv x0_1 2)), (wrap64 (x3_1 + 1)), tS, tS, H', ⟨by have := HK1.out; omega⟩, tD⟩
def spec_l01Rest.l0 : Nat → Int → Int → Int → Option (Int)
  | 0, _, _, _ => none
  | k + 1, x0, x1, x5 => (spec_l01Degree.f k x0).bind fun t104 => (if t104 ≥ x5 then ((spec_l01Degree.f k x0).bind fun t105 => (if 0 ≤ (IntKind.u64.wrap (wrap64 (t105 - x5))) then (spec_l01Rest.l0 k (Go.bits .xor .i64 x0 (shl .i64 x1 (IntKind.u64.wrap (wrap64 (t105 - x5))))) x1 x5) else (none))) else (some x0))
def spec_l01Rest.f (k : Nat) (a0 : Int) (a1 : Int) : Option (Int) := (spec_l01Degree.f k a1).bind fun t103 => (spec_l01Rest.l0 k a0 a1 t103)
theorem spec_l01Rest.mono_l : ∀ k, (∀ y0 y1 y2, LeO (spec_l01Rest.l0 k y0 y1 y2) (spec_l01Rest.l0 (k + 1) y0 y1 y2))
 | 0 => fun _ _ _ r h => by simp [spec_l01Rest.l0] at h
 | k + 1 => by
  have ih0 := spec_l01Rest.mono_l k
  ·intro y0 y1 y2
   unfold spec_l01Rest.l0
   repeat' first
   | (with_reducible first | apply ih0 | apply spec_l01Degree.mono | exact LeO.refl _ | exact LeO.none _ | refine LeO.ite ?_ ?_ | refine LeO.bind ?_ (fun _ => ?_))
   | exact LeO.none _
   | refine LeO.ite ?_ ?_
   | refine LeO.bind ?_ (fun _ => ?_)
theorem spec_l01Rest.mono : ∀ a0 a1 k, LeO (spec_l01Rest.f k a0 a1) (spec_l01Rest.f (k + 1) a0 a1) := by
 intro a0 a1 k
 have ih0 := spec_l01Rest.mono_l k
 unfold spec_l01Rest.f
 repeat' first
  | (with_reducible first | apply ih0 | apply spec_l01Degree.mono | exact LeO.refl _ | exact LeO.none _ | refine LeO.ite ?_ ?_ | refine LeO.bind ?_ (fun _ => ?_))
  | exact LeO.none _
  | refine LeO.ite ?_ ?_
  | refine LeO.bind ?_ (fun _ => ?_)
theorem spec_l01Rest.calls (k : Nat) (a0 : Int) (a1 : Int) (r : Int) (w : World) (h : spec_l01Rest.f k a0 a1 = some r) :
 Calls Try.prog 117 #[.int .i64 a0, .int .i64 a1] w fun e w' => e = .returned (.int .i64 r) ∧ Dq w w' := by
 have H : ((spec_l01Degree.f k a1).bind fun t103 => (spec_l01Rest.l0 k a0 a1 t103)) = some r := h
 clear h
 obtain ⟨t103, A3, H⟩ := qBd H
 replace H' := Aq.mk H
 clear H
 go_enter Try.func117, Try.ntmps117
 go_wp2_with (first | ((with_reducible refine gQc (f := 95) rfl ?_); refine goesL_ (some 7) rfl rfl Try.func95 (by kernel_rfl) rfl #[.int .i64 a1] rfl tL ?_; (with_reducible refine (spec_l01Degree.calls k a1 t103 _ A3.out).mono ?_); rintro e w' ⟨rfl, ⟨nd, rfl⟩⟩; refine ⟨_, rfl, ?_⟩))
 go_loopg [0] k (fun kq v0 w' => ∃ (x0_1 : Int), v0 = .int .i64 x0_1 ∧ Aq (spec_l01Rest.l0 kq x0_1 a1 t103 = some r) ∧ Aq (kq ≤ k) ∧ Dq w w')
 case atStart => exact ⟨(a0), tS, H', ⟨Nat.le_refl _⟩, tD⟩
 clear H'
 obtain ⟨x0_1, rfl, HA, HK1, ⟨m1, rfl⟩⟩ := hrel
 cases gk with
 | zero => exact absurd HA.out (by simp [spec_l01Rest.l0])
 | succ k1 =>
  have H := HA.out
  clear HA
  simp only [spec_l01Rest.l0] at H
  obtain ⟨t104, A4, H⟩ := qBd H
  by_cases c5 : t104 ≥ t103
  rotate_left
  ·rw [if_neg c5] at H
   have c5b0 := decide_eq_false c5
   clear c5
   obtain rfl := Option.some.inj H
   go_wp2_with (first | ((with_reducible refine gQc (f := 95) rfl ?_); refine goesL_ (some 9) rfl rfl Try.func95 (by kernel_rfl) rfl #[.int .i64 x0_1] rfl tL ?_; (with_reducible refine (spec_l01Degree.calls k1 x0_1 t104 _ A4.out).mono ?_); rintro e w' ⟨rfl, ⟨nd, rfl⟩⟩; refine ⟨_, rfl, ?_⟩))
   go_ret
   exact ⟨tS, tD⟩
  rw [if_pos c5] at H
  have c5b0 := decide_eq_true c5
  clear c5
  obtain ⟨t105, A6, H⟩ := qBd H
  obtain ⟨ji7, hji7⟩ : ∃ j_ : Int, (IntKind.u64.wrap (wrap64 (t105 - t103))) = j_ := ⟨_, rfl⟩
  first | rw [hji7] at H | simp only [hji7] at H | skip
  (try rw [hji7] at A4)
  (try rw [hji7] at A6)
  by_cases c8 : 0 ≤ (ji7)
  rotate_left
  ·rw [if_neg c8] at H
   exact absurd H (by simp)
  rw [if_pos c8] at H
  have c8b0 := eq_true c8
  have c8b1 := decide_eq_true c8
  clear c8
  obtain ⟨ji9, hji9⟩ : ∃ j_ : Int, (shl .i64 a1 (ji7)) = j_ := ⟨_, rfl⟩
  first | rw [hji9] at H | simp only [hji9] at H | skip
  (try rw [hji9] at A4)
  (try rw [hji9] at A6)
  have hji9_ : (IntKind.i64.wrap (a1 * 2 ^ min (ji7).toNat 64)) = ji9 := hji9
  have hji9z : (ji7) ≤ 64 → (IntKind.i64.wrap (a1 * 2 ^ (ji7).toNat)) = ji9 := shl_small hji9
  have hji9y : (wrap64 (a1 * 2 ^ min (ji7).toNat 64)) = ji9 := (i64_w _).symm.trans hji9_
  have hji9x : (ji7) ≤ 64 → (wrap64 (a1 * 2 ^ (ji7).toNat)) = ji9 := fun h_ => (i64_w _).symm.trans (hji9z h_)
  replace H' := Aq.mk H
  clear H
  go_wp2_with (first | ((with_reducible refine gQc (f := 95) rfl ?_); refine goesL_ (some 9) rfl rfl Try.func95 (by kernel_rfl) rfl #[.int .i64 x0_1] rfl tL ?_; (with_reducible refine (spec_l01Degree.calls k1 x0_1 t104 _ A4.out).mono ?_); rintro e w' ⟨rfl, ⟨nd, rfl⟩⟩; refine ⟨_, rfl, ?_⟩) | ((with_reducible refine gQc (f := 95) rfl ?_); refine goesL_ (some 15) rfl rfl Try.func95 (by kernel_rfl) rfl #[.int .i64 x0_1] rfl tL ?_; (with_reducible refine (spec_l01Degree.calls k1 x0_1 t105 _ A6.out).mono ?_); rintro e w' ⟨rfl, ⟨nd, rfl⟩⟩; refine ⟨_, rfl, ?_⟩))
  go_roundg k1
  case measure => have := HK1.out; omega
  case rel => exact ⟨(Go.bits .xor .i64 x0_1 (ji9)), (by first | rfl | (simp; done) | (simp only [← hji9] <;> (first | rfl | simp)) | (simp [*]; done)), H', ⟨by have := HK1.out; omega⟩, tD⟩
mutual
def spec_l01Irreducible.j0 : Nat → Int → Int → Bool → Option (Bool)
  | 0, _, _, _ => none
  | k + 1, x0, x3, x12 => if x12 = true then (some false) else (spec_l01Irreducible.l0 k x0 x3 2)
def spec_l01Irreducible.l0 : Nat → Int → Int → Int → Option (Bool)
  | 0, _, _, _ => none
  | k + 1, x0, x3, x4 => (spec_l01Degree.f k x4).bind fun t107 => (if t107 < x3 then ((spec_l01Rest.f k x0 x4).bind fun t108 => (if t108 = 0 then (some false) else (spec_l01Irreducible.l0 k x0 x3 (wrap64 (x4 + 1))))) else (some true))
end
def spec_l01Irreducible.f (k : Nat) (a0 : Int) : Option (Bool) := (spec_l01Degree.f k a0).bind fun t106 => (if t106 < 1 then (spec_l01Irreducible.j0 k a0 t106 true) else (spec_l01Irreducible.j0 k a0 t106 (decide (t106 > 5))))
theorem spec_l01Irreducible.mono_l : ∀ k, (∀ y0 y1 y2, LeO (spec_l01Irreducible.j0 k y0 y1 y2) (spec_l01Irreducible.j0 (k + 1) y0 y1 y2)) ∧ (∀ y0 y1 y2, LeO (spec_l01Irreducible.l0 k y0 y1 y2) (spec_l01Irreducible.l0 (k + 1) y0 y1 y2))
 | 0 => ⟨fun _ _ _ r h => by simp [spec_l01Irreducible.j0] at h, fun _ _ _ r h => by simp [spec_l01Irreducible.l0] at h⟩
 | k + 1 => by
  obtain ⟨ih0, ih1⟩ := spec_l01Irreducible.mono_l k
  refine ⟨?_, ?_⟩ <;> intros <;> first | unfold spec_l01Irreducible.j0 | unfold spec_l01Irreducible.l0
  all_goals repeat' first
   | (with_reducible first | apply ih0 | apply ih1 | apply spec_l01Degree.mono | apply spec_l01Rest.mono | exact LeO.refl _ | exact LeO.none _ | refine LeO.ite ?_ ?_ | refine LeO.bind ?_ (fun _ => ?_))
   | exact LeO.none _
   | refine LeO.ite ?_ ?_
   | refine LeO.bind ?_ (fun _ => ?_)
theorem spec_l01Irreducible.mono : ∀ a0 k, LeO (spec_l01Irreducible.f k a0) (spec_l01Irreducible.f (k + 1) a0) := by
 intro a0 k
 obtain ⟨ih0, ih1⟩ := spec_l01Irreducible.mono_l k
 unfold spec_l01Irreducible.f
 repeat' first
  | (with_reducible first | apply ih0 | apply ih1 | apply spec_l01Degree.mono | apply spec_l01Rest.mono | exact LeO.refl _ | exact LeO.none _ | refine LeO.ite ?_ ?_ | refine LeO.bind ?_ (fun _ => ?_))
  | exact LeO.none _
  | refine LeO.ite ?_ ?_
  | refine LeO.bind ?_ (fun _ => ?_)
theorem spec_l01Irreducible.calls (k : Nat) (a0 : Int) (r : Bool) (w : World) (h : spec_l01Irreducible.f k a0 = some r) :
 Calls Try.prog 116 #[.int .i64 a0] w fun e w' => e = .returned (.bool r) ∧ Dq w w' := by
 have H : ((spec_l01Degree.f k a0).bind fun t106 => (if t106 < 1 then (spec_l01Irreducible.j0 k a0 t106 true) else (spec_l01Irreducible.j0 k a0 t106 (decide (t106 > 5))))) = some r := h
 clear h
 obtain ⟨t106, A2, H⟩ := qBd H
 have HC3 := Aq.mk H
 clear H
 go_enter Try.func116, Try.ntmps116
 go_upto_region 2 with (first | ((with_reducible refine gQc (f := 95) rfl ?_); refine goesL_ (some 6) rfl rfl Try.func95 (by kernel_rfl) rfl #[.int .i64 a0] rfl tL ?_; (with_reducible refine (spec_l01Degree.calls k a0 t106 _ A2.out).mono ?_); rintro e w' ⟨rfl, ⟨nd, rfl⟩⟩; refine ⟨_, rfl, ?_⟩))
 (try simp only [Act.put, qSa, qSb, qSc])
 go_cut [12] (fun v12 wc => ∃ (kq : Nat) (x12_2 : Bool), v12 = .bool x12_2 ∧ Aq (spec_l01Irreducible.j0 kq a0 t106 x12_2 = some r) ∧ Aq (kq ≤ k) ∧ Dq w wc)
 case first =>
  have H := HC3.out
  clear HC3
  by_cases c4 : t106 < 1
  ·rw [if_pos c4] at H
   have c4b0 := decide_eq_true c4
   clear c4
   (first | rw [c4b0] | (simp only [i64_w, i32_w]; rw [c4b0]) | skip)
   replace H' := Aq.mk H
   clear H
   go_wp2
   go_meet
   case rel => exact ⟨_, (true), tS, H', ⟨tO⟩, tD⟩
  rw [if_neg c4] at H
  have c4b0 := decide_eq_false c4
  clear c4
  (first | rw [c4b0] | (simp only [i64_w, i32_w]; rw [c4b0]) | skip)
  replace H' := Aq.mk H
  clear H
  go_wp2
  go_meet
  case rel => exact ⟨_, (decide (t106 > 5)), tS, H', ⟨tO⟩, tD⟩
 clear HC3
 try clear c4
 try clear c4b0
 obtain ⟨kq, x12_2, rfl, HA, HJ2, ⟨mc2, rfl⟩⟩ := hcut
 cases kq with
 | zero => exact absurd HA.out (by simp [spec_l01Irreducible.j0])
 | succ kj2 =>
  have H := HA.out
  clear HA
  simp only [spec_l01Irreducible.j0] at H
  by_cases c5 : x12_2 = true
  ·subst c5
   rw [if_pos rfl] at H
   obtain rfl := Option.some.inj H
   go_wp2
   go_ret
   exact ⟨tS, tD⟩
  replace c5 := Bool.eq_false_iff.mpr c5
  subst c5
  rw [if_neg (show ¬ (false = true) by decide)] at H
  replace H' := Aq.mk H
  clear H
  go_wp2
  go_loopg [4] kj2 (fun kq v4 w' => ∃ (x4_2 : Int), v4 = .int .i64 x4_2 ∧ Aq (spec_l01Irreducible.l0 kq a0 t106 x4_2 = some r) ∧ Aq (kq ≤ kj2) ∧ Dq w w')
  case atStart => exact ⟨(2), tS, H', ⟨Nat.le_refl _⟩, tD⟩
  clear H'
  try clear c4
  try clear c4b0
  try clear c5
  obtain ⟨x4_2, rfl, HA, HK2, ⟨m2, rfl⟩⟩ := hrel
  cases gk with
  | zero => exact absurd HA.out (by simp [spec_l01Irreducible.l0])
  | succ k2 =>
   have H := HA.out
   clear HA
   simp only [spec_l01Irreducible.l0] at H
   obtain ⟨t107, A6, H⟩ := qBd H
   by_cases c7 : t107 < t106
   rotate_left
   ·rw [if_neg c7] at H
    have c7b0 := decide_eq_false c7
    clear c7
    obtain rfl := Option.some.inj H
    go_wp2_with (first | ((with_reducible refine gQc (f := 95) rfl ?_); refine goesL_ (some 14) rfl rfl Try.func95 (by kernel_rfl) rfl #[.int .i64 x4_2] rfl tL ?_; (with_reducible refine (spec_l01Degree.calls k2 x4_2 t107 _ A6.out).mono ?_); rintro e w' ⟨rfl, ⟨nd, rfl⟩⟩; refine ⟨_, rfl, ?_⟩))
    go_ret
    exact ⟨tS, tD⟩
   rw [if_pos c7] at H
   have c7b0 := decide_eq_true c7
   clear c7
   obtain ⟨t108, A8, H⟩ := qBd H
   by_cases c9 : t108 = 0
   ·rw [if_pos c9] at H
    have c9b0 := beq_iff_eq.mpr c9
    have c9b1 := bne_eq_false_iff_eq.mpr c9
    clear c9
    obtain rfl := Option.some.inj H
    go_wp2_with (first | ((with_reducible refine gQc (f := 95) rfl ?_); refine goesL_ (some 14) rfl rfl Try.func95 (by kernel_rfl) rfl #[.int .i64 x4_2] rfl tL ?_; (with_reducible refine (spec_l01Degree.calls k2 x4_2 t107 _ A6.out).mono ?_); rintro e w' ⟨rfl, ⟨nd, rfl⟩⟩; refine ⟨_, rfl, ?_⟩) | ((with_reducible refine gQc (f := 117) rfl ?_); refine goesL_ (some 21) rfl rfl Try.func117 (by kernel_rfl) rfl #[.int .i64 a0, .int .i64 x4_2] rfl tL ?_; (with_reducible refine (spec_l01Rest.calls k2 a0 x4_2 t108 _ A8.out).mono ?_); rintro e w' ⟨rfl, ⟨nd, rfl⟩⟩; refine ⟨_, rfl, ?_⟩))
    go_ret
    exact ⟨tS, tD⟩
   rw [if_neg c9] at H
   have c9b0 := beq_eq_false_iff_ne.mpr c9
   have c9b1 := bne_iff_ne.mpr c9
   replace H' := Aq.mk H
   clear H
   go_wp2_with (first | ((with_reducible refine gQc (f := 95) rfl ?_); refine goesL_ (some 14) rfl rfl Try.func95 (by kernel_rfl) rfl #[.int .i64 x4_2] rfl tL ?_; (with_reducible refine (spec_l01Degree.calls k2 x4_2 t107 _ A6.out).mono ?_); rintro e w' ⟨rfl, ⟨nd, rfl⟩⟩; refine ⟨_, rfl, ?_⟩) | ((with_reducible refine gQc (f := 117) rfl ?_); refine goesL_ (some 21) rfl rfl Try.func117 (by kernel_rfl) rfl #[.int .i64 a0, .int .i64 x4_2] rfl tL ?_; (with_reducible refine (spec_l01Rest.calls k2 a0 x4_2 t108 _ A8.out).mono ?_); rintro e w' ⟨rfl, ⟨nd, rfl⟩⟩; refine ⟨_, rfl, ?_⟩))
   go_roundg k2
   case measure => have := HJ2.out; have := HK2.out; omega
   case rel => exact ⟨(wrap64 (x4_2 + 1)), tS, H', ⟨by have := HJ2.out; have := HK2.out; omega⟩, tD⟩
def spec_IsIrreducible.f (k : Nat) (a0 : Int) : Option (Bool) := if a0 > 0 then (if a0 < 64 then ((spec_l01Irreducible.f k a0).bind fun t109 => (some t109)) else (some false)) else (some false)
theorem spec_IsIrreducible.mono : ∀ a0 k, LeO (spec_IsIrreducible.f k a0) (spec_IsIrreducible.f (k + 1) a0) := by
 intro a0 k
 unfold spec_IsIrreducible.f
 repeat' first
  | (with_reducible first | apply spec_l01Irreducible.mono | exact LeO.refl _ | exact LeO.none _ | refine LeO.ite ?_ ?_ | refine LeO.bind ?_ (fun _ => ?_))
  | exact LeO.none _
  | refine LeO.ite ?_ ?_
  | refine LeO.bind ?_ (fun _ => ?_)
theorem spec_IsIrreducible.calls (k : Nat) (a0 : Int) (r : Bool) (w : World) (h : spec_IsIrreducible.f k a0 = some r) :
 Calls Try.prog 94 #[.int .i64 a0] w fun e w' => e = .returned (.bool r) ∧ Dq w w' := by
 have H : (if a0 > 0 then (if a0 < 64 then ((spec_l01Irreducible.f k a0).bind fun t109 => (some t109)) else (some false)) else (some false)) = some r := h
 clear h
 by_cases c2 : a0 > 0
 rotate_left
 ·rw [if_neg c2] at H
  have c2b0 := decide_eq_false c2
  clear c2
  obtain rfl := Option.some.inj H
  go_enter Try.func94, Try.ntmps94
  go_wp2
  go_ret
  exact ⟨tS, tD⟩
 rw [if_pos c2] at H
 have c2b0 := decide_eq_true c2
 clear c2
 by_cases c3 : a0 < 64
 ·rw [if_pos c3] at H
  have c3b0 := decide_eq_true c3
  clear c3
  obtain ⟨t109, A4, H⟩ := qBd H
  obtain rfl := Option.some.inj H
  go_enter Try.func94, Try.ntmps94
  go_wp2_with (first | (go_at_call 116; (with_reducible refine (spec_l01Irreducible.calls k a0 t109 _ A4.out).mono ?_); rintro e w' ⟨rfl, ⟨nd, rfl⟩⟩))
  go_ret
  exact ⟨tS, tD⟩
 rw [if_neg c3] at H
 have c3b0 := decide_eq_false c3
 clear c3
 obtain rfl := Option.some.inj H
 go_enter Try.func94, Try.ntmps94
 go_wp2
 go_ret
 exact ⟨tS, tD⟩
def spec_l01Ok.f (k : Nat) (a0_0 : Int) (a0_1 : Int) : Option (Bool) := (spec_l00In.f a0_0 1 5).bind fun t111 => (if t111 = true then ((spec_IsIrreducible.f k a0_1).bind fun t112 => (if t112 = true then ((spec_l01Degree.f k a0_1).bind fun t113 => (some (t113 == a0_0))) else (some false))) else (some false))
theorem spec_l01Ok.mono : ∀ a0 a1 k, LeO (spec_l01Ok.f k a0 a1) (spec_l01Ok.f (k + 1) a0 a1) := by
 intro a0 a1 k
 unfold spec_l01Ok.f
 repeat' first
  | (with_reducible first | apply spec_IsIrreducible.mono | apply spec_l01Degree.mono | exact LeO.refl _ | exact LeO.none _ | refine LeO.ite ?_ ?_ | refine LeO.bind ?_ (fun _ => ?_))
  | exact LeO.none _
  | refine LeO.ite ?_ ?_
  | refine LeO.bind ?_ (fun _ => ?_)
theorem spec_l01Ok.calls (k : Nat) (a0_0 : Int) (a0_1 : Int) (r : Bool) (w : World) (h : spec_l01Ok.f k a0_0 a0_1 = some r) :
 Calls Try.prog 61 #[.agg #[.int .i64 a0_0, .int .i64 a0_1]] w fun e w' => e = .returned (.bool r) ∧ Below w.heap.size w w' := by
 have hu28 := Try.underlying28
 have HB := Aq.mk (Below.refl w.heap.size w)
 have H : ((spec_l00In.f a0_0 1 5).bind fun t111 => (if t111 = true then ((spec_IsIrreducible.f k a0_1).bind fun t112 => (if t112 = true then ((spec_l01Degree.f k a0_1).bind fun t113 => (some (t113 == a0_0))) else (some false))) else (some false))) = some r := h
 clear h
 obtain ⟨t111, A2, H⟩ := qBd H
 by_cases c3 : t111 = true
 rotate_left
 ·replace c3 := Bool.eq_false_iff.mpr c3
  subst c3
  rw [if_neg (show ¬ (false = true) by decide)] at H
  obtain rfl := Option.some.inj H
  go_enter Try.func61, Try.ntmps61
  go_wp2_with (first | ((with_reducible refine gQd (N := 1) rfl ?_); refine xQe ?hg (N := 1) ?hd (cs := #[.int .i64 a0_0, .int .i64 a0_1]) (t := 28) ?hr ?_; (case hd => rfl); (case hg => rfl); (case hr => exact tH); intro gb110 hg w11 hbox hb; refine qM4 (bQT tB hb) hbox (tZ w hg) (tZ w hg) ?_; clear HB; intro HB BK110 GW110 GE110; clear hb hbox hg; have hcz12_0 : w11.cell? ⟨gb110, 0, none⟩ = some (.int .i64 a0_0) := (kQC BK110.out 0).trans rfl; have hcz12_1 : w11.cell? ⟨gb110, 1, none⟩ = some (.int .i64 a0_1) := (kQC BK110.out 1).trans rfl; have hfz12_0 := kQF BK110.out 0; have hfz12_1 := kQF BK110.out 1) | (go_at_call 62; (with_reducible refine (spec_l00In.calls a0_0 1 5 false _ A2.out).mono ?_); rintro e w' ⟨rfl, ⟨nd, rfl⟩⟩; (try exact tW)))
  repeat (go_quiet (first | ((with_reducible refine gQd (N := 1) rfl ?_); refine xQe ?hg (N := 1) ?hd (cs := #[.int .i64 a0_0, .int .i64 a0_1]) (t := 28) ?hr ?_; (case hd => rfl); (case hg => rfl); (case hr => exact tH); intro gb110 hg w11 hbox hb; refine qM4 (bQT tB hb) hbox (tZ w hg) (tZ w hg) ?_; clear HB; intro HB BK110 GW110 GE110; clear hb hbox hg; have hcz12_0 : w11.cell? ⟨gb110, 0, none⟩ = some (.int .i64 a0_0) := (kQC BK110.out 0).trans rfl; have hcz12_1 : w11.cell? ⟨gb110, 1, none⟩ = some (.int .i64 a0_1) := (kQC BK110.out 1).trans rfl; have hfz12_0 := kQF BK110.out 0; have hfz12_1 := kQF BK110.out 1) | (go_at_call 62; (with_reducible refine (spec_l00In.calls a0_0 1 5 false _ A2.out).mono ?_); rintro e w' ⟨rfl, ⟨nd, rfl⟩⟩; (try exact tW))); try go_wp2_with (first | ((with_reducible refine gQd (N := 1) rfl ?_); refine xQe ?hg (N := 1) ?hd (cs := #[.int .i64 a0_0, .int .i64 a0_1]) (t := 28) ?hr ?_; (case hd => rfl); (case hg => rfl); (case hr => exact tH); intro gb110 hg w11 hbox hb; refine qM4 (bQT tB hb) hbox (tZ w hg) (tZ w hg) ?_; clear HB; intro HB BK110 GW110 GE110; clear hb hbox hg; have hcz12_0 : w11.cell? ⟨gb110, 0, none⟩ = some (.int .i64 a0_0) := (kQC BK110.out 0).trans rfl; have hcz12_1 : w11.cell? ⟨gb110, 1, none⟩ = some (.int .i64 a0_1) := (kQC BK110.out 1).trans rfl; have hfz12_0 := kQF BK110.out 0; have hfz12_1 := kQF BK110.out 1) | (go_at_call 62; (with_reducible refine (spec_l00In.calls a0_0 1 5 false _ A2.out).mono ?_); rintro e w' ⟨rfl, ⟨nd, rfl⟩⟩; (try exact tW))))
  go_ret
  exact ⟨tE, tB⟩
 subst c3
 rw [if_pos rfl] at H
 obtain ⟨t112, A4, H⟩ := qBd H
 by_cases c5 : t112 = true
 ·subst c5
  rw [if_pos rfl] at H
  obtain ⟨t113, A6, H⟩ := qBd H
  obtain rfl := Option.some.inj H
  go_enter Try.func61, Try.ntmps61
  go_wp2_with (first | ((with_reducible refine gQd (N := 1) rfl ?_); refine xQe ?hg (N := 1) ?hd (cs := #[.int .i64 a0_0, .int .i64 a0_1]) (t := 28) ?hr ?_; (case hd => rfl); (case hg => rfl); (case hr => exact tH); intro gb110 hg w7 hbox hb; refine qM4 (bQT tB hb) hbox (tZ w hg) (tZ w hg) ?_; clear HB; intro HB BK110 GW110 GE110; clear hb hbox hg; have hcz8_0 : w7.cell? ⟨gb110, 0, none⟩ = some (.int .i64 a0_0) := (kQC BK110.out 0).trans rfl; have hcz8_1 : w7.cell? ⟨gb110, 1, none⟩ = some (.int .i64 a0_1) := (kQC BK110.out 1).trans rfl; have hfz8_0 := kQF BK110.out 0; have hfz8_1 := kQF BK110.out 1) | (go_at_call 62; (with_reducible refine (spec_l00In.calls a0_0 1 5 true _ A2.out).mono ?_); rintro e w' ⟨rfl, ⟨nd, rfl⟩⟩; (try exact tW)) | (go_at_call 94; (with_reducible refine (spec_IsIrreducible.calls k a0_1 true _ A4.out).mono ?_); rintro e w' ⟨rfl, ⟨nd, rfl⟩⟩; (try exact tW)) | (go_at_call 95; (with_reducible refine (spec_l01Degree.calls k a0_1 t113 _ A6.out).mono ?_); rintro e w' ⟨rfl, ⟨nd, rfl⟩⟩; (try exact tW)))
  repeat (go_quiet (first | ((with_reducible refine gQd (N := 1) rfl ?_); refine xQe ?hg (N := 1) ?hd (cs := #[.int .i64 a0_0, .int .i64 a0_1]) (t := 28) ?hr ?_; (case hd => rfl); (case hg => rfl); (case hr => exact tH); intro gb110 hg w7 hbox hb; refine qM4 (bQT tB hb) hbox (tZ w hg) (tZ w hg) ?_; clear HB; intro HB BK110 GW110 GE110; clear hb hbox hg; have hcz8_0 : w7.cell? ⟨gb110, 0, none⟩ = some (.int .i64 a0_0) := (kQC BK110.out 0).trans rfl; have hcz8_1 : w7.cell? ⟨gb110, 1, none⟩ = some (.int .i64 a0_1) := (kQC BK110.out 1).trans rfl; have hfz8_0 := kQF BK110.out 0; have hfz8_1 := kQF BK110.out 1) | (go_at_call 62; (with_reducible refine (spec_l00In.calls a0_0 1 5 true _ A2.out).mono ?_); rintro e w' ⟨rfl, ⟨nd, rfl⟩⟩; (try exact tW)) | (go_at_call 94; (with_reducible refine (spec_IsIrreducible.calls k a0_1 true _ A4.out).mono ?_); rintro e w' ⟨rfl, ⟨nd, rfl⟩⟩; (try exact tW)) | (go_at_call 95; (with_reducible refine (spec_l01Degree.calls k a0_1 t113 _ A6.out).mono ?_); rintro e w' ⟨rfl, ⟨nd, rfl⟩⟩; (try exact tW))); try go_wp2_with (first | ((with_reducible refine gQd (N := 1) rfl ?_); refine xQe ?hg (N := 1) ?hd (cs := #[.int .i64 a0_0, .int .i64 a0_1]) (t := 28) ?hr ?_; (case hd => rfl); (case hg => rfl); (case hr => exact tH); intro gb110 hg w7 hbox hb; refine qM4 (bQT tB hb) hbox (tZ w hg) (tZ w hg) ?_; clear HB; intro HB BK110 GW110 GE110; clear hb hbox hg; have hcz8_0 : w7.cell? ⟨gb110, 0, none⟩ = some (.int .i64 a0_0) := (kQC BK110.out 0).trans rfl; have hcz8_1 : w7.cell? ⟨gb110, 1, none⟩ = some (.int .i64 a0_1) := (kQC BK110.out 1).trans rfl; have hfz8_0 := kQF BK110.out 0; have hfz8_1 := kQF BK110.out 1) | (go_at_call 62; (with_reducible refine (spec_l00In.calls a0_0 1 5 true _ A2.out).mono ?_); rintro e w' ⟨rfl, ⟨nd, rfl⟩⟩; (try exact tW)) | (go_at_call 94; (with_reducible refine (spec_IsIrreducible.calls k a0_1 true _ A4.out).mono ?_); rintro e w' ⟨rfl, ⟨nd, rfl⟩⟩; (try exact tW)) | (go_at_call 95; (with_reducible refine (spec_l01Degree.calls k a0_1 t113 _ A6.out).mono ?_); rintro e w' ⟨rfl, ⟨nd, rfl⟩⟩; (try exact tW))))
  go_ret
  exact ⟨tE, tB⟩
 replace c5 := Bool.eq_false_iff.mpr c5
 subst c5
 rw [if_neg (show ¬ (false = true) by decide)] at H
 obtain rfl := Option.some.inj H
 go_enter Try.func61, Try.ntmps61
 go_wp2_with (first | ((with_reducible refine gQd (N := 1) rfl ?_); refine xQe ?hg (N := 1) ?hd (cs := #[.int .i64 a0_0, .int .i64 a0_1]) (t := 28) ?hr ?_; (case hd => rfl); (case hg => rfl); (case hr => exact tH); intro gb110 hg w9 hbox hb; refine qM4 (bQT tB hb) hbox (tZ w hg) (tZ w hg) ?_; clear HB; intro HB BK110 GW110 GE110; clear hb hbox hg; have hcz10_0 : w9.cell? ⟨gb110, 0, none⟩ = some (.int .i64 a0_0) := (kQC BK110.out 0).trans rfl; have hcz10_1 : w9.cell? ⟨gb110, 1, none⟩ = some (.int .i64 a0_1) := (kQC BK110.out 1).trans rfl; have hfz10_0 := kQF BK110.out 0; have hfz10_1 := kQF BK110.out 1) | (go_at_call 62; (with_reducible refine (spec_l00In.calls a0_0 1 5 true _ A2.out).mono ?_); rintro e w' ⟨rfl, ⟨nd, rfl⟩⟩; (try exact tW)) | (go_at_call 94; (with_reducible refine (spec_IsIrreducible.calls k a0_1 false _ A4.out).mono ?_); rintro e w' ⟨rfl, ⟨nd, rfl⟩⟩; (try exact tW)))
 repeat (go_quiet (first | ((with_reducible refine gQd (N := 1) rfl ?_); refine xQe ?hg (N := 1) ?hd (cs := #[.int .i64 a0_0, .int .i64 a0_1]) (t := 28) ?hr ?_; (case hd => rfl); (case hg => rfl); (case hr => exact tH); intro gb110 hg w9 hbox hb; refine qM4 (bQT tB hb) hbox (tZ w hg) (tZ w hg) ?_; clear HB; intro HB BK110 GW110 GE110; clear hb hbox hg; have hcz10_0 : w9.cell? ⟨gb110, 0, none⟩ = some (.int .i64 a0_0) := (kQC BK110.out 0).trans rfl; have hcz10_1 : w9.cell? ⟨gb110, 1, none⟩ = some (.int .i64 a0_1) := (kQC BK110.out 1).trans rfl; have hfz10_0 := kQF BK110.out 0; have hfz10_1 := kQF BK110.out 1) | (go_at_call 62; (with_reducible refine (spec_l00In.calls a0_0 1 5 true _ A2.out).mono ?_); rintro e w' ⟨rfl, ⟨nd, rfl⟩⟩; (try exact tW)) | (go_at_call 94; (with_reducible refine (spec_IsIrreducible.calls k a0_1 false _ A4.out).mono ?_); rintro e w' ⟨rfl, ⟨nd, rfl⟩⟩; (try exact tW))); try go_wp2_with (first | ((with_reducible refine gQd (N := 1) rfl ?_); refine xQe ?hg (N := 1) ?hd (cs := #[.int .i64 a0_0, .int .i64 a0_1]) (t := 28) ?hr ?_; (case hd => rfl); (case hg => rfl); (case hr => exact tH); intro gb110 hg w9 hbox hb; refine qM4 (bQT tB hb) hbox (tZ w hg) (tZ w hg) ?_; clear HB; intro HB BK110 GW110 GE110; clear hb hbox hg; have hcz10_0 : w9.cell? ⟨gb110, 0, none⟩ = some (.int .i64 a0_0) := (kQC BK110.out 0).trans rfl; have hcz10_1 : w9.cell? ⟨gb110, 1, none⟩ = some (.int .i64 a0_1) := (kQC BK110.out 1).trans rfl; have hfz10_0 := kQF BK110.out 0; have hfz10_1 := kQF BK110.out 1) | (go_at_call 62; (with_reducible refine (spec_l00In.calls a0_0 1 5 true _ A2.out).mono ?_); rintro e w' ⟨rfl, ⟨nd, rfl⟩⟩; (try exact tW)) | (go_at_call 94; (with_reducible refine (spec_IsIrreducible.calls k a0_1 false _ A4.out).mono ?_); rintro e w' ⟨rfl, ⟨nd, rfl⟩⟩; (try exact tW))))
 go_ret
 exact ⟨tE, tB⟩
def spec_l01Size.f (a0_0 : Int) (a0_1 : Int) : Option (Int) := if 0 ≤ (IntKind.u64.wrap (a0_0)) then (some (shl .i64 1 (IntKind.u64.wrap (a0_0)))) else (none)
theorem spec_l01Size.calls (a0_0 : Int) (a0_1 : Int) (r : Int) (w : World) (h : spec_l01Size.f a0_0 a0_1 = some r) :
 Calls Try.prog 96 #[.agg #[.int .i64 a0_0, .int .i64 a0_1]] w fun e w' => e = .returned (.int .i64 r) ∧ Below w.heap.size w w' := by
 have hu28 := Try.underlying28
 have HB := Aq.mk (Below.refl w.heap.size w)
 have H : (if 0 ≤ (IntKind.u64.wrap (a0_0)) then (some (shl .i64 1 (IntKind.u64.wrap (a0_0)))) else (none)) = some r := h
 clear h
 obtain ⟨ji2, hji2⟩ : ∃ j_ : Int, (IntKind.u64.wrap (a0_0)) = j_ := ⟨_, rfl⟩
 first | rw [hji2] at H | simp only [hji2] at H | skip
 by_cases c3 : 0 ≤ (ji2)
 rotate_left
 ·rw [if_neg c3] at H
  exact absurd H (by simp)
 rw [if_pos c3] at H
 have c3b0 := eq_true c3
 have c3b1 := decide_eq_true c3
 clear c3
 obtain ⟨ji4, hji4⟩ : ∃ j_ : Int, (shl .i64 1 (ji2)) = j_ := ⟨_, rfl⟩
 first | rw [hji4] at H | simp only [hji4] at H | skip
 have hji4_ : (IntKind.i64.wrap (1 * 2 ^ min (ji2).toNat 64)) = ji4 := hji4
 have hji4z : (ji2) ≤ 64 → (IntKind.i64.wrap (1 * 2 ^ (ji2).toNat)) = ji4 := shl_small hji4
 have hji4u : (IntKind.i64.wrap (2 ^ min (ji2).toNat 64)) = ji4 := by have h_ := hji4_; rw [Int.one_mul] at h_; exact h_
 have hji4v : (ji2) ≤ 64 → (IntKind.i64.wrap (2 ^ (ji2).toNat)) = ji4 := fun hle_ => by have h_ := hji4z hle_; rw [Int.one_mul] at h_; exact h_
 have hji4y : (wrap64 (1 * 2 ^ min (ji2).toNat 64)) = ji4 := (i64_w _).symm.trans hji4_
 have hji4x : (ji2) ≤ 64 → (wrap64 (1 * 2 ^ (ji2).toNat)) = ji4 := fun h_ => (i64_w _).symm.trans (hji4z h_)
 obtain rfl := Option.some.inj H
 go_enter Try.func96, Try.ntmps96
 go_wp2_with (first | ((with_reducible refine gQd (N := 1) rfl ?_); refine xQe ?hg (N := 1) ?hd (cs := #[.int .i64 a0_0, .int .i64 a0_1]) (t := 28) ?hr ?_; (case hd => rfl); (case hg => rfl); (case hr => exact tH); intro gb114 hg w5 hbox hb; refine qM4 (bQT tB hb) hbox (tZ w hg) (tZ w hg) ?_; clear HB; intro HB BK114 GW114 GE114; clear hb hbox hg; have hcz6_0 : w5.cell? ⟨gb114, 0, none⟩ = some (.int .i64 a0_0) := (kQC BK114.out 0).trans rfl; have hcz6_1 : w5.cell? ⟨gb114, 1, none⟩ = some (.int .i64 a0_1) := (kQC BK114.out 1).trans rfl; have hfz6_0 := kQF BK114.out 0; have hfz6_1 := kQF BK114.out 1))
 go_ret
 exact ⟨by first | rfl | (simp [errW_none, errW_some] <;> rfl) | (simp only [← hji2, ← hji4]; first | rfl | (simp [errW_none, errW_some] <;> rfl)) | (simp [*, errW_none, errW_some] <;> rfl), tB⟩
end Go.Proofs.Ytbalkaphibnpcaa.P
