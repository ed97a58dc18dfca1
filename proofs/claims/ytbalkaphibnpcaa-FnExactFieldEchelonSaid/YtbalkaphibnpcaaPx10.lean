/- Functions of the program and what they tell, as the printing program wrote it. -/
import Derived.Test.YtbalkaphibnpcaaPx0
import Derived.Test.YtbalkaphibnpcaaPx5
namespace Go.Proofs.Ytbalkaphibnpcaa.P
open Go.Shelf Go.RowKit Go.Proofs.YtbalkaphibnpcaaW.PrintWords Go.Proofs.YtbalkaphibnpcaaW.PrintLast Go.Proofs.YtbalkaphibnpcaaW.PrintMore
attribute [local go_sem] max2_int min2_int max_two min_two max_three min_three max_four min_four
set_option linter.unusedVariables false
set_option linter.unusedSimpArgs false
set_option maxHeartbeats 8000000
set_option maxRecDepth 100000
def spec_l01Mul.l0 : Nat → Int → Int → Int → Int → Int → Int → Option (Int)
  | 0, _, _, _, _, _, _ => none
  | k + 1, x1, x2, x7, x8, x132000, x132001 => if x8 < x132000 then (if 0 ≤ (IntKind.u64.wrap (x8)) then (if (Go.bits .and .i64 (shr .i64 x2 (IntKind.u64.wrap (x8))) 1) = 1 then (spec_l01Mul.l0 k x1 x2 (Go.bits .xor .i64 x7 (shl .i64 x1 (IntKind.u64.wrap (x8)))) (wrap64 (x8 + 1)) x132000 x132001) else (spec_l01Mul.l0 k x1 x2 x7 (wrap64 (x8 + 1)) x132000 x132001)) else (none)) else ((spec_l01Rest.f k x7 x132001).bind fun t132 => (some t132))
def spec_l01Mul.f (k : Nat) (a0_0 : Int) (a0_1 : Int) (a1 : Int) (a2 : Int) : Option (Int) := spec_l01Mul.l0 k a1 a2 0 0 a0_0 a0_1
theorem spec_l01Mul.mono_l : ∀ k, (∀ y0 y1 y2 y3 y4 y5, LeO (spec_l01Mul.l0 k y0 y1 y2 y3 y4 y5) (spec_l01Mul.l0 (k + 1) y0 y1 y2 y3 y4 y5))
 | 0 => fun _ _ _ _ _ _ r h => by simp [spec_l01Mul.l0] at h
 | k + 1 => by
  have ih0 := spec_l01Mul.mono_l k
  ·intro y0 y1 y2 y3 y4 y5
   unfold spec_l01Mul.l0
   repeat' first
   | (with_reducible first | apply ih0 | apply spec_l01Rest.mono | exact LeO.refl _ | exact LeO.none _ | refine LeO.ite ?_ ?_ | refine LeO.bind ?_ (fun _ => ?_))
   | exact LeO.none _
   | refine LeO.ite ?_ ?_
   | refine LeO.bind ?_ (fun _ => ?_)
theorem spec_l01Mul.mono : ∀ a0 a1 a2 a3 k, LeO (spec_l01Mul.f k a0 a1 a2 a3) (spec_l01Mul.f (k + 1) a0 a1 a2 a3) := by
 intro a0 a1 a2 a3 k
 have ih0 := spec_l01Mul.mono_l k
 unfold spec_l01Mul.f
 repeat' first
  | (with_reducible first | apply ih0 | apply spec_l01Rest.mono | exact LeO.refl _ | exact LeO.none _ | refine LeO.ite ?_ ?_ | refine LeO.bind ?_ (fun _ => ?_))
  | exact LeO.none _
  | refine LeO.ite ?_ ?_
  | refine LeO.bind ?_ (fun _ => ?_)
theorem spec_l01Mul.calls (k : Nat) (a0_0 : Int) (a0_1 : Int) (a1 : Int) (a2 : Int) (r : Int) (w : World) (h : spec_l01Mul.f k a0_0 a0_1 a1 a2 = some r) :
 Calls Try.prog 97 #[.agg #[.int .i64 a0_0, .int .i64 a0_1], .int .i64 a1, .int .i64 a2] w fun e w' => e = .returned (.int .i64 r) ∧ Below w.heap.size w w' := by
 have hu28 := Try.underlying28
 have HB := Aq.mk (Below.refl w.heap.size w)
 have H : (spec_l01Mul.l0 k a1 a2 0 0 a0_0 a0_1) = some r := h
 clear h
 replace H' := Aq.mk H
 clear H
 go_enter Try.func97, Try.ntmps97
 go_wp2_with (first | ((with_reducible refine gQd (N := 3) rfl ?_); refine xQe ?hg (N := 3) ?hd (cs := #[.int .i64 a0_0, .int .i64 a0_1]) (t := 28) ?hr ?_; (case hd => rfl); (case hg => rfl); (case hr => exact tH); intro gb131 hg w4 hbox hb; refine qM4 (bQT tB hb) hbox (tZ w hg) (tZ w hg) ?_; clear HB; intro HB BK131 GW131 GE131; clear hb hbox hg))
 go_loopg [7, 8] k (fun kq v7 v8 w' => ∃ (x7_1 : Int) (x8_1 : Int), v7 = .int .i64 x7_1 ∧ v8 = .int .i64 x8_1 ∧ Aq (spec_l01Mul.l0 kq a1 a2 x7_1 x8_1 a0_0 a0_1 = some r) ∧ Aq (kq ≤ k) ∧ Aq (w'.heap[gb131]? = some (.cells #[.int .i64 a0_0, .int .i64 a0_1] 28 (0, 0))) ∧ Aq (Below w.heap.size w w'))
 case atStart => exact ⟨(0), (0), tS, tS, H', ⟨Nat.le_refl _⟩, ⟨tG BK131.out⟩, ⟨tB⟩⟩
 clear H'
 obtain ⟨x7_1, x8_1, rfl, rfl, HA, HK1, BK131, HB⟩ := hrel
 cases gk with
 | zero => exact absurd HA.out (by simp [spec_l01Mul.l0])
 | succ k1 =>
  have H := HA.out
  clear HA
  simp only [spec_l01Mul.l0] at H
  by_cases c5 : x8_1 < a0_0
  rotate_left
  ·rw [if_neg c5] at H
   have c5b0 := decide_eq_false c5
   clear c5
   obtain ⟨t132, A14, H⟩ := qBd H
   obtain rfl := Option.some.inj H
   have hcz15_0 : wr.cell? ⟨gb131, 0, none⟩ = some (.int .i64 a0_0) := (kQC BK131.out 0).trans rfl
   have hcz15_1 : wr.cell? ⟨gb131, 1, none⟩ = some (.int .i64 a0_1) := (kQC BK131.out 1).trans rfl
   have hfz15_0 := kQF BK131.out 0
   have hfz15_1 := kQF BK131.out 1
   go_wp2_with (first | ((with_reducible refine gQc (f := 117) rfl ?_); refine goesL_ (some 30) rfl rfl Try.func117 (by kernel_rfl) rfl #[.int .i64 x7_1, .int .i64 a0_1] rfl tL ?_; (with_reducible refine (spec_l01Rest.calls k1 x7_1 a0_1 t132 _ A14.out).mono ?_); rintro e w' ⟨rfl, ⟨nd, rfl⟩⟩; refine ⟨_, rfl, ?_⟩))
   go_ret
   exact ⟨tE, tB⟩
  rw [if_pos c5] at H
  have c5b0 := decide_eq_true c5
  clear c5
  obtain ⟨ji6, hji6⟩ : ∃ j_ : Int, (IntKind.u64.wrap (x8_1)) = j_ := ⟨_, rfl⟩
  first | rw [hji6] at H | simp only [hji6] at H | skip
  by_cases c7 : 0 ≤ (ji6)
  rotate_left
  ·rw [if_neg c7] at H
   exact absurd H (by simp)
  rw [if_pos c7] at H
  have c7b0 := eq_true c7
  have c7b1 := decide_eq_true c7
  clear c7
  obtain ⟨ji8, hji8⟩ : ∃ j_ : Int, (shr .i64 a2 (ji6)) = j_ := ⟨_, rfl⟩
  first | rw [hji8] at H | simp only [hji8] at H | skip
  have hji8_ : (a2 / 2 ^ min (ji6).toNat 64) = ji8 := hji8
  have hji8z : (ji6) ≤ 64 → (a2 / 2 ^ (ji6).toNat) = ji8 := shr_small hji8
  by_cases c9 : (Go.bits .and .i64 (ji8) 1) = 1
  rotate_left
  ·rw [if_neg c9] at H
   have c9b0 := beq_eq_false_iff_ne.mpr c9
   have c9b1 := bne_iff_ne.mpr c9
   replace H' := Aq.mk H
   clear H
   have hcz13_0 : wr.cell? ⟨gb131, 0, none⟩ = some (.int .i64 a0_0) := (kQC BK131.out 0).trans rfl
   have hcz13_1 : wr.cell? ⟨gb131, 1, none⟩ = some (.int .i64 a0_1) := (kQC BK131.out 1).trans rfl
   have hfz13_0 := kQF BK131.out 0
   have hfz13_1 := kQF BK131.out 1
   go_wp2
   go_roundg k1
   case measure => have := HK1.out; omega
   case rel => exact ⟨(x7_1), (wrap64 (x8_1 + 1)), tS, tS, H', ⟨by have := HK1.out; omega⟩, ⟨tG BK131.out⟩, ⟨tB⟩⟩
  rw [if_pos c9] at H
  have c9b0 := beq_iff_eq.mpr c9
  have c9b1 := bne_eq_false_iff_eq.mpr c9
  clear c9
  have c10b0 := eq_true (of_decide_eq_true tA : 0 ≤ (ji6))
  obtain ⟨ji11, hji11⟩ : ∃ j_ : Int, (shl .i64 a1 (ji6)) = j_ := ⟨_, rfl⟩
  first | rw [hji11] at H | simp only [hji11] at H | skip
  have hji11_ : (IntKind.i64.wrap (a1 * 2 ^ min (ji6).toNat 64)) = ji11 := hji11
  have hji11z : (ji6) ≤ 64 → (IntKind.i64.wrap (a1 * 2 ^ (ji6).toNat)) = ji11 := shl_small hji11
  have hji11y : (wrap64 (a1 * 2 ^ min (ji6).toNat 64)) = ji11 := (i64_w _).symm.trans hji11_
  have hji11x : (ji6) ≤ 64 → (wrap64 (a1 * 2 ^ (ji6).toNat)) = ji11 := fun h_ => (i64_w _).symm.trans (hji11z h_)
  replace H' := Aq.mk H
  clear H
  have hcz12_0 : wr.cell? ⟨gb131, 0, none⟩ = some (.int .i64 a0_0) := (kQC BK131.out 0).trans rfl
  have hcz12_1 : wr.cell? ⟨gb131, 1, none⟩ = some (.int .i64 a0_1) := (kQC BK131.out 1).trans rfl
  have hfz12_0 := kQF BK131.out 0
  have hfz12_1 := kQF BK131.out 1
  go_wp2
  go_roundg k1
  case measure => have := HK1.out; omega
  case rel => exact ⟨(Go.bits .xor .i64 x7_1 (ji11)), (wrap64 (x8_1 + 1)), (by first | rfl | (simp; done) | (simp only [← hji11] <;> (first | rfl | simp)) | (simp [*]; done)), tS, H', ⟨by have := HK1.out; omega⟩, ⟨tG BK131.out⟩, ⟨tB⟩⟩
def spec_l04Add.l0 : Nat → List Int → List Int → Int → List Int → Int → Int → Int → Option (List Int)
  | 0, _, _, _, _, _, _, _ => none
  | k + 1, x1, x2, x3, x9, x10, x134000, x134001 => if x10 < (x1.length : Int) then (if 0 ≤ x10 then (if x10 < (x2.length : Int) then ((spec_l01Mul.f k x134000 x134001 (rd x2 x10) x3).bind fun t139 => (if x9.length < 17592186044416 then (spec_l04Add.l0 k x1 x2 x3 (x9 ++ [Go.bits .xor .i64 (rd x1 x10) t139]) (wrap64 (x10 + 1)) x134000 x134001) else (none))) else (none)) else (none)) else (some x9)
def spec_l04Add.f (k : Nat) (a0_0 : Int) (a0_1 : Int) (l1 : List Int) (l2 : List Int) (a3 : Int) : Option (List Int) := spec_l04Add.l0 k l1 l2 a3 (([] : List Int)) 0 a0_0 a0_1
theorem spec_l04Add.mono_l : ∀ k, (∀ y0 y1 y2 y3 y4 y5 y6, LeO (spec_l04Add.l0 k y0 y1 y2 y3 y4 y5 y6) (spec_l04Add.l0 (k + 1) y0 y1 y2 y3 y4 y5 y6))
 | 0 => fun _ _ _ _ _ _ _ r h => by simp [spec_l04Add.l0] at h
 | k + 1 => by
  have ih0 := spec_l04Add.mono_l k
  ·intro y0 y1 y2 y3 y4 y5 y6
   unfold spec_l04Add.l0
   repeat' first
   | (with_reducible first | apply ih0 | apply spec_l01Mul.mono | exact LeO.refl _ | exact LeO.none _ | refine LeO.ite ?_ ?_ | refine LeO.bind ?_ (fun _ => ?_))
   | exact LeO.none _
   | refine LeO.ite ?_ ?_
   | refine LeO.bind ?_ (fun _ => ?_)
theorem spec_l04Add.mono : ∀ a0 a1 a2 a3 a4 k, LeO (spec_l04Add.f k a0 a1 a2 a3 a4) (spec_l04Add.f (k + 1) a0 a1 a2 a3 a4) := by
 intro a0 a1 a2 a3 a4 k
 have ih0 := spec_l04Add.mono_l k
 unfold spec_l04Add.f
 repeat' first
  | (with_reducible first | apply ih0 | apply spec_l01Mul.mono | exact LeO.refl _ | exact LeO.none _ | refine LeO.ite ?_ ?_ | refine LeO.bind ?_ (fun _ => ?_))
  | exact LeO.none _
  | refine LeO.ite ?_ ?_
  | refine LeO.bind ?_ (fun _ => ?_)
def spec_l04Add.T5 : Bool × List (List Nat × List Nat) := (true, [([], []), ([], []), ([], []), ([1, 2], [1, 2]), ([3], [3]), ([], []), ([], []), ([], []), ([6, 7], [6, 7]), ([8], [8]), ([], []), ([5, 9, 10], [5, 9, 10]), ([4, 11], [4, 11]), ([12], [12]), ([0, 13, 11], [0, 13]), ([14, 14, 0, 1, 2, 3, 4, 5, 6, 7, 8, 9, 10, 11, 12, 13, 14], [0, 14])])
def spec_l04Add.B5 : List Nat := [0, 0, 0, 6, 14, 0, 0, 0, 192, 448, 0, 2016, 4094, 8190, 16383, 32767]
theorem spec_l04Add.tab5 : rtab .any (opsOf Try.f65 5) = spec_l04Add.T5 := by kernel_rfl
theorem spec_l04Add.bits5 : waitsOk spec_l04Add.T5.2 spec_l04Add.B5 = true := by kernel_rfl
theorem spec_l04Add.calls (k : Nat) (a0_0 : Int) (a0_1 : Int) (A1 : Option Addr) (c1 : Nat) (l1 : List Int) (A2 : Option Addr) (c2 : Nat) (l2 : List Int) (a3 : Int) (r : List Int) (w : World) (hr1 : Kd.C (Kd.int .i64) w A1 l1.length l1) (hc1 : l1.length ≤ c1) (hr2 : Kd.C (Kd.int .i64) w A2 l2.length l2) (hc2 : l2.length ≤ c2) (h : spec_l04Add.f k a0_0 a0_1 l1 l2 a3 = some r) :
 Calls Try.prog 65 #[.agg #[.int .i64 a0_0, .int .i64 a0_1], .slice A1 l1.length c1, .slice A2 l2.length c2, .int .i64 a3] w fun e w' => ∃ v0_ : Value, e = .returned (v0_) ∧ Kd.R (Kd.int .i64) 2 w' w.heap.size (fun _ => True) v0_ r ∧ Below w.heap.size w w' := by
 have hu28 := Try.underlying28
 have HR1 := Aq.mk hr1
 have HC1 := Aq.mk hc1
 clear hr1 hc1
 have HR2 := Aq.mk hr2
 have HC2 := Aq.mk hc2
 clear hr2 hc2
 have HB := Aq.mk (Below.refl w.heap.size w)
 have H : (spec_l04Add.l0 k l1 l2 a3 (([] : List Int)) 0 a0_0 a0_1) = some r := h
 clear h
 obtain ⟨y134, hy134⟩ : ∃ y_ : List Int, y_ = (([] : List Int)) := ⟨_, rfl⟩
 replace H : (spec_l04Add.l0 k l1 l2 a3 y134 0 a0_0 a0_1) = some r := by first | (rw [hy134]; with_reducible exact H) | (have H2_ := (Option.bind_some _ _).symm.trans H; rw [hy134]; with_reducible exact H2_) | (have H2_ := (Option.bind_some _ _).symm.trans H; with_reducible exact H2_) | with_reducible exact H | (rw [hy134]; exact H) | exact H
 have Ny134 := Aq.mk hy134
 clear hy134
 replace H' := Aq.mk H
 clear H
 go_enter Try.func65, Try.ntmps65
 go_wp2_with (first | ((with_reducible refine gQd (N := 4) rfl ?_); refine xQe ?hg (N := 4) ?hd (cs := #[.int .i64 a0_0, .int .i64 a0_1]) (t := 28) ?hr ?_; (case hd => rfl); (case hg => rfl); (case hr => exact tH); intro gb133 hg w5 hbox hb; refine qM4 (bQT tB hb) hbox (tZ w hg) (tZ w hg) ?_; clear HB; intro HB BK133 GW133 GE133; clear hb hbox hg) | ((with_reducible refine gQd (N := 11) rfl ?_); refine Kd.R_lit (Kd.int .i64) _ 2 ?hg (N := 11) ?hd (xs := ([] : List Int)) (inner := []) (ok := fun _ => True) (okp := fun _ => True) ?hr ?hp (fun _ hk => hk) trivial (Below.refl _ _) (Nat.le_refl _) (by simp) ?_; (case hd => rfl); (case hg => rfl); (case hr => exact tH); (case hp => exact (Reps.none _ _)); intro v135 w6 ho7 hb hg_ hnew_; clear hg_ hnew_; (first | rw [← Ny134.out] at ho7 | (simp only [Int.reduceToNat] at ho7; rw [← Ny134.out] at ho7)); refine qM3 (Kd.R_lower ho7 (bQZ tB)) (tQ BK133.out hb) (bQT tB hb) ?_; clear BK133 HB; intro HO136 BK133 HB; clear hb ho7))
 go_loopg [9, 10] k (fun kq v9 v10 w' => ∃ (x9_1 : List Int) (x10_1 : Int), v10 = .int .i64 x10_1 ∧ Aq (spec_l04Add.l0 kq l1 l2 a3 x9_1 x10_1 a0_0 a0_1 = some r) ∧ Aq (kq ≤ k) ∧ Aq (Kd.R (Kd.int .i64) 2 w' w.heap.size (fun _ => True) v9 x9_1) ∧ Aq (w'.heap[gb133]? = some (.cells #[.int .i64 a0_0, .int .i64 a0_1] 28 (0, 0))) ∧ Aq (Below w.heap.size w w'))
 case atStart => exact ⟨(y134), (0), tS, H', ⟨Nat.le_refl _⟩, ⟨tR HO136.out⟩, ⟨tG BK133.out⟩, ⟨tB⟩⟩
 clear H'
 try clear c1
 try clear c2
 obtain ⟨x9_1, x10_1, rfl, HA, HK1, HO_9, BK133, HB⟩ := hrel
 cases gk with
 | zero => exact absurd HA.out (by simp [spec_l04Add.l0])
 | succ k1 =>
  have H := HA.out
  clear HA
  simp only [spec_l04Add.l0] at H
  by_cases c8 : x10_1 < (l1.length : Int)
  rotate_left
  ·rw [if_neg c8] at H
   have c8b0 := decide_eq_false c8
   clear c8
   obtain rfl := Option.some.inj H
   go_wp2
   go_ret
   exact ⟨_, tE, tR HO_9.out, tB⟩
  rw [if_pos c8] at H
  have c8b0 := decide_eq_true c8
  clear c8
  by_cases c9 : 0 ≤ x10_1
  rotate_left
  ·rw [if_neg c9] at H
   exact absurd H (by simp)
  rw [if_pos c9] at H
  have c9b0 := decide_eq_true c9
  clear c9
  by_cases c10 : x10_1 < (l2.length : Int)
  rotate_left
  ·rw [if_neg c10] at H
   exact absurd H (by simp)
  rw [if_pos c10] at H
  have c10b0 := decide_eq_true c10
  clear c10
  obtain ⟨t139, A11, H⟩ := qBd H
  by_cases c12 : x9_1.length < 17592186044416
  rotate_left
  ·rw [if_neg c12] at H
   exact absurd H (by simp)
  rw [if_pos c12] at H
  have LMc12 := Aq.mk c12
  clear c12
  obtain ⟨y140, hy140⟩ : ∃ y_ : List Int, y_ = (x9_1 ++ [Go.bits .xor .i64 (rd l1 x10_1) t139]) := ⟨_, rfl⟩
  replace H : (spec_l04Add.l0 k1 l1 l2 a3 y140 (wrap64 (x10_1 + 1)) a0_0 a0_1) = some r := by first | (rw [hy140]; with_reducible exact H) | (have H2_ := (Option.bind_some _ _).symm.trans H; rw [hy140]; with_reducible exact H2_) | (have H2_ := (Option.bind_some _ _).symm.trans H; with_reducible exact H2_) | with_reducible exact H | (rw [hy140]; exact H) | exact H
  have Ny140 := Aq.mk hy140
  clear hy140
  replace H' := Aq.mk H
  clear H
  try go_wp2
  have n0_ := Aq.mk (Kd.RqD HO_9.out)
  have n1_ := Aq.mk (kQD BK133.out)
  have n2_ := Aq.mk (bQ1 HB.out)
  clear HO_9
  clear BK133
  clear HB
  have HO_9 := n0_
  have BK133 := n1_
  have HB := n2_
  clear n0_ n1_ n2_
  have p137 : 0 ≤ (x10_1 : Int) := of_decide_eq_true tA
  have q137 : x10_1 < (l1.length : Int) := of_decide_eq_true tA
  obtain ⟨ad137, e137, hx137_0⟩ := Kd.at_int HR1.out x10_1 p137 q137
  have hw137_0 := hx137_0
  cases e137
  replace hx137_0 := (HB.out.cell (World.block_lt_of_cell? w _ hx137_0)).trans hx137_0
  replace p137 := eq_true p137
  replace q137 := eq_true q137
  have p138 : 0 ≤ (x10_1 : Int) := of_decide_eq_true tA
  have q138 : x10_1 < (l2.length : Int) := of_decide_eq_true tA
  obtain ⟨ad138, e138, hx138_0⟩ := Kd.at_int HR2.out x10_1 p138 q138
  have hw138_0 := hx138_0
  cases e138
  replace hx138_0 := (HB.out.cell (World.block_lt_of_cell? w _ hx138_0)).trans hx138_0
  replace p138 := eq_true p138
  replace q138 := eq_true q138
  refine start_ (n := 16) (S := fun w' => w'.cell? ⟨gb133, 0, none⟩ = some (.int .i64 a0_0) ∧ w'.cell? ⟨gb133, 1, none⟩ = some (.int .i64 a0_1) ∧ w'.cell? (ad137.add (x10_1).toNat) = some (.int .i64 (rd l1 x10_1)) ∧ w'.cell? (ad138.add (x10_1).toNat) = some (.int .i64 (rd l2 x10_1))) (ds := []) #[false, false, false, false, false, false, false, false, false, false, false, false, false, false, false, false] (by kernel_rfl) rfl rfl ⟨(kQC BK133.out 0).trans rfl, (kQC BK133.out 1).trans rfl, (tcw tB hw137_0), (tcw tB hw138_0)⟩ (fun hHeld => ?_); refine with_tabW spec_l04Add.tab5 spec_l04Add.bits5 (fun HT_ HW_ => ?_)
  generalize wr.drew = w13 at HO_9 BK133 HB hx137_0 hx138_0 hHeld ⊢
  refine tP0 0 18 (bm 16 1) ?_
  refine tP0 1 19 (bm 16 3) ?_
  refine tP0 2 20 (bm 16 7) ?_
  refine tP0 3 21 (bm 16 15) ?_
  refine tP0 6 24 (bm 16 79) ?_
  refine tP0 7 25 (bm 16 207) ?_
  refine tP0 8 26 (bm 16 463) ?_
  refine tP0 10 28 (bm 16 1487) ?_
  refine tT4 4 22 (bm 16 1503) ?_
  refine tT4 5 23 (bm 16 1535) ?_
  refine tT4 9 27 (bm 16 2047) ?_
  refine one_ (i := 11) (N := some 29) (bm 16 4095) rfl rfl (one_of HT_.out (by kernel_rfl)) (by decide) (fun K hK => ?_)
  refine goes_ Try.func97 (by kernel_rfl) rfl #[.agg #[.int .i64 a0_0, .int .i64 a0_1], .int .i64 (rd l2 x10_1), .int .i64 a3] (by rfl) rfl rfl tL ?_
  with_reducible refine (spec_l01Mul.calls k1 a0_0 a0_1 (rd l2 x10_1) a3 t139 _ A11.out).mono ?_
  rintro e w14 ⟨rfl, hb⟩
  refine ⟨_, rfl, ?_⟩
  have n0_ := Aq.mk (Kd.R_below (tR HO_9.out) hb)
  have n1_ := Aq.mk (tQ BK133.out hb)
  have n2_ := Aq.mk (bQT tB hb)
  clear HO_9
  clear BK133
  clear HB
  have HO_9 := n0_
  have BK133 := n1_
  have HB := n2_
  clear n0_ n1_ n2_
  (try clear hb)
  (try clear hb2)
  (try clear hk)
  (try clear hi)
  refine hK.out _ _ ⟨(kQC BK133.out 0).trans rfl, (kQC BK133.out 1).trans rfl, (tcw tB hw137_0), (tcw tB hw138_0)⟩ (fun hHeld => ?_)
  clear hK K
  refine tN 29 ?_
  refine tP0 12 30 (bm 16 8191) ?_
  refine one_ (i := 13) (N := some 31) (bm 16 16383) rfl rfl (one_of HT_.out (by kernel_rfl)) (by decide) (fun K hK => ?_)
  refine value_ (w1 := ?_) (v := ?_) (by rfl) rfl ?_ ?_
  rotate_left 2
  ·go_simp
   constructor
   ·rfl
   rfl
  refine hK.out _ _ ⟨(kQC (kQA BK133.out _) 0).trans rfl, (kQC (kQA BK133.out _) 1).trans rfl, (World.cell?_alloc_lt _ _ _ (World.block_lt_of_cell? _ _ ((tcw tB hw137_0)))).trans ((tcw tB hw137_0)), (World.cell?_alloc_lt _ _ _ (World.block_lt_of_cell? _ _ ((tcw tB hw138_0)))).trans ((tcw tB hw138_0))⟩ (fun hHeld => ?_)
  clear hK K
  refine tN 31 ?_
  refine one_ (i := 14) (N := some 32) (bm 16 32767) rfl rfl (one_of HT_.out (by kernel_rfl)) (by decide) (fun K hK => ?_)
  refine Kd.R_append_step (Kd.int .i64) (w0 := w) w.heap.size (by rfl) (.tmp 18) (.tmp 31) 38 2 (.int .i64 0) 8 rfl Try.underlying38 info2 rfl (by decide) (by omega) u9 x9_1 (Go.bits .xor .i64 (rd l1 x10_1) t139) [.int .i64 (Go.bits .xor .i64 (rd l1 x10_1) t139)] (fun _ => True) (fun _ => False) rfl rfl ?aP (fun _ hk => hk.elim) ?aF ?aO ?aB ?aS ?aL ?_
  (case aP => exact rfl)
  (case aB => exact tB)
  (case aF => exact (fun _ _ => trivial))
  (case aO => exact (tR HO_9.out))
  (case aS => exact (bQZ tB))
  (case aL => have := LMc12.out; omega)
  intro v141 w15 ho hb hg hat
  rw [← Ny140.out] at ho
  have n0_ := Aq.mk (blk_grown (g := gb133) (o := .cells #[.int .i64 a0_0, .int .i64 a0_1] 28 (0, 0)) (tG BK133.out) hg (Kd.R_ne HO_9.out BK133.out (by decide)))
  have n1_ := Aq.mk (hb)
  have n2_ := Aq.mk (ho)
  clear BK133
  clear HB
  clear HO_9
  have BK133 := n0_
  have HB := n1_
  have HO142 := n2_
  clear n0_ n1_ n2_
  clear ho hb hg hat
  refine hK.out _ _ ⟨(kQC BK133.out 0).trans rfl, (kQC BK133.out 1).trans rfl, (tcw tB hw137_0), (tcw tB hw138_0)⟩ (fun hHeld => ?_)
  clear hK K
  refine tN 32 ?_
  refine tP0 15 9 (bm 16 65535) ?_
  refine done_ (done_of HT_.out (by kernel_rfl)) ?_
  try go_wp2
  go_roundg k1
  case measure => have := HK1.out; omega
  case rel => exact ⟨(y140), (wrap64 (x10_1 + 1)), tS, H', ⟨by have := HK1.out; omega⟩, ⟨tR HO142.out⟩, ⟨tG BK133.out⟩, ⟨tB⟩⟩
def spec_l01Power.l0 : Nat → Int → Int → Int → Int → Int → Option (Int)
  | 0, _, _, _, _, _ => none
  | k + 1, x1, x2, x7, x144000, x144001 => if x2 > 0 then ((spec_l01Mul.f k x144000 x144001 x7 x1).bind fun t144 => (spec_l01Power.l0 k x1 (wrap64 (x2 - 1)) t144 x144000 x144001)) else (some x7)
def spec_l01Power.f (k : Nat) (a0_0 : Int) (a0_1 : Int) (a1 : Int) (a2 : Int) : Option (Int) := spec_l01Power.l0 k a1 a2 1 a0_0 a0_1
theorem spec_l01Power.mono_l : ∀ k, (∀ y0 y1 y2 y3 y4, LeO (spec_l01Power.l0 k y0 y1 y2 y3 y4) (spec_l01Power.l0 (k + 1) y0 y1 y2 y3 y4))
 | 0 => fun _ _ _ _ _ r h => by simp [spec_l01Power.l0] at h
 | k + 1 => by
  have ih0 := spec_l01Power.mono_l k
  ·intro y0 y1 y2 y3 y4
   unfold spec_l01Power.l0
   repeat' first
   | (with_reducible first | apply ih0 | apply spec_l01Mul.mono | exact LeO.refl _ | exact LeO.none _ | refine LeO.ite ?_ ?_ | refine LeO.bind ?_ (fun _ => ?_))
   | exact LeO.none _
   | refine LeO.ite ?_ ?_
   | refine LeO.bind ?_ (fun _ => ?_)
theorem spec_l01Power.mono : ∀ a0 a1 a2 a3 k, LeO (spec_l01Power.f k a0 a1 a2 a3) (spec_l01Power.f (k + 1) a0 a1 a2 a3) := by
 intro a0 a1 a2 a3 k
 have ih0 := spec_l01Power.mono_l k
 unfold spec_l01Power.f
 repeat' first
  | (with_reducible first | apply ih0 | apply spec_l01Mul.mono | exact LeO.refl _ | exact LeO.none _ | refine LeO.ite ?_ ?_ | refine LeO.bind ?_ (fun _ => ?_))
  | exact LeO.none _
  | refine LeO.ite ?_ ?_
  | refine LeO.bind ?_ (fun _ => ?_)
theorem spec_l01Power.calls (k : Nat) (a0_0 : Int) (a0_1 : Int) (a1 : Int) (a2 : Int) (r : Int) (w : World) (h : spec_l01Power.f k a0_0 a0_1 a1 a2 = some r) :
 Calls Try.prog 98 #[.agg #[.int .i64 a0_0, .int .i64 a0_1], .int .i64 a1, .int .i64 a2] w fun e w' => e = .returned (.int .i64 r) ∧ Below w.heap.size w w' := by
 have hu28 := Try.underlying28
 have HB := Aq.mk (Below.refl w.heap.size w)
 have H : (spec_l01Power.l0 k a1 a2 1 a0_0 a0_1) = some r := h
 clear h
 replace H' := Aq.mk H
 clear H
 go_enter Try.func98, Try.ntmps98
 go_wp2_with (first | ((with_reducible refine gQd (N := 3) rfl ?_); refine xQe ?hg (N := 3) ?hd (cs := #[.int .i64 a0_0, .int .i64 a0_1]) (t := 28) ?hr ?_; (case hd => rfl); (case hg => rfl); (case hr => exact tH); intro gb143 hg w4 hbox hb; refine qM4 (bQT tB hb) hbox (tZ w hg) (tZ w hg) ?_; clear HB; intro HB BK143 GW143 GE143; clear hb hbox hg))
 go_loopg [2, 7] k (fun kq v2 v7 w' => ∃ (x2_1 : Int) (x7_1 : Int), v2 = .int .i64 x2_1 ∧ v7 = .int .i64 x7_1 ∧ Aq (spec_l01Power.l0 kq a1 x2_1 x7_1 a0_0 a0_1 = some r) ∧ Aq (kq ≤ k) ∧ Aq (w'.heap[gb143]? = some (.cells #[.int .i64 a0_0, .int .i64 a0_1] 28 (0, 0))) ∧ Aq (Below w.heap.size w w'))
 case atStart => exact ⟨(a2), (1), tS, tS, H', ⟨Nat.le_refl _⟩, ⟨tG BK143.out⟩, ⟨tB⟩⟩
 clear H'
 obtain ⟨x2_1, x7_1, rfl, rfl, HA, HK1, BK143, HB⟩ := hrel
 cases gk with
 | zero => exact absurd HA.out (by simp [spec_l01Power.l0])
 | succ k1 =>
  have H := HA.out
  clear HA
  simp only [spec_l01Power.l0] at H
  by_cases c5 : x2_1 > 0
  rotate_left
  ·rw [if_neg c5] at H
   have c5b0 := decide_eq_false c5
   clear c5
   obtain rfl := Option.some.inj H
   go_wp2
   go_ret
   exact ⟨tE, tB⟩
  rw [if_pos c5] at H
  have c5b0 := decide_eq_true c5
  clear c5
  obtain ⟨t144, A6, H⟩ := qBd H
  replace H' := Aq.mk H
  clear H
  have hcz7_0 : wr.cell? ⟨gb143, 0, none⟩ = some (.int .i64 a0_0) := (kQC BK143.out 0).trans rfl
  have hcz7_1 : wr.cell? ⟨gb143, 1, none⟩ = some (.int .i64 a0_1) := (kQC BK143.out 1).trans rfl
  have hfz7_0 := kQF BK143.out 0
  have hfz7_1 := kQF BK143.out 1
  go_wp2_with (first | ((with_reducible refine gQc (f := 97) rfl ?_); refine goesL_ (some 15) rfl rfl Try.func97 (by kernel_rfl) rfl #[.agg #[.int .i64 a0_0, .int .i64 a0_1], .int .i64 x7_1, .int .i64 a1] rfl tL ?_; (with_reducible refine (spec_l01Mul.calls k1 a0_0 a0_1 x7_1 a1 t144 _ A6.out).mono ?_); rintro e w8 ⟨rfl, hb⟩; refine ⟨_, rfl, ?_⟩; refine qM2 (tQ BK143.out hb) (bQT tB hb) ?_; clear BK143 HB; intro BK143 HB; (try clear hb); (try clear hb2); (try clear hk); (try clear hi)))
  go_roundg k1
  case measure => have := HK1.out; omega
  case rel => exact ⟨(wrap64 (x2_1 - 1)), (t144), tS, tS, H', ⟨by have := HK1.out; omega⟩, ⟨tG BK143.out⟩, ⟨tB⟩⟩
def spec_l01Inverse.f (k : Nat) (a0_0 : Int) (a0_1 : Int) (a1 : Int) : Option (Int) := (spec_l01Size.f a0_0 a0_1).bind fun t146 => ((spec_l01Power.f k a0_0 a0_1 a1 (wrap64 (t146 - 2))).bind fun t147 => (some t147))
theorem spec_l01Inverse.mono : ∀ a0 a1 a2 k, LeO (spec_l01Inverse.f k a0 a1 a2) (spec_l01Inverse.f (k + 1) a0 a1 a2) := by
 intro a0 a1 a2 k
 unfold spec_l01Inverse.f
 repeat' first
  | (with_reducible first | apply spec_l01Power.mono | exact LeO.refl _ | exact LeO.none _ | refine LeO.ite ?_ ?_ | refine LeO.bind ?_ (fun _ => ?_))
  | exact LeO.none _
  | refine LeO.ite ?_ ?_
  | refine LeO.bind ?_ (fun _ => ?_)
theorem spec_l01Inverse.calls (k : Nat) (a0_0 : Int) (a0_1 : Int) (a1 : Int) (r : Int) (w : World) (h : spec_l01Inverse.f k a0_0 a0_1 a1 = some r) :
 Calls Try.prog 66 #[.agg #[.int .i64 a0_0, .int .i64 a0_1], .int .i64 a1] w fun e w' => e = .returned (.int .i64 r) ∧ Below w.heap.size w w' := by
 have hu28 := Try.underlying28
 have HB := Aq.mk (Below.refl w.heap.size w)
 have H : ((spec_l01Size.f a0_0 a0_1).bind fun t146 => ((spec_l01Power.f k a0_0 a0_1 a1 (wrap64 (t146 - 2))).bind fun t147 => (some t147))) = some r := h
 clear h
 obtain ⟨t146, A3, H⟩ := qBd H
 obtain ⟨t147, A4, H⟩ := qBd H
 obtain rfl := Option.some.inj H
 go_enter Try.func66, Try.ntmps66
 try go_wp2_with (first | ((with_reducible refine gQd (N := 2) rfl ?_); refine xQe ?hg (N := 2) ?hd (cs := #[.int .i64 a0_0, .int .i64 a0_1]) (t := 28) ?hr ?_; (case hd => rfl); (case hg => rfl); (case hr => exact tH); intro gb145 hg w5 hbox hb; refine qM4 (bQT tB hb) hbox (tZ w hg) (tZ w hg) ?_; clear HB; intro HB BK145 GW145 GE145; clear hb hbox hg))
 have n0_ := Aq.mk (kQD BK145.out)
 have n1_ := Aq.mk (bQ1 HB.out)
 clear BK145
 clear HB
 have BK145 := n0_
 have HB := n1_
 clear n0_ n1_
 refine start_ (n := 7) (S := fun w' => w'.cell? ⟨gb145, 0, none⟩ = some (.int .i64 a0_0) ∧ w'.cell? ⟨gb145, 1, none⟩ = some (.int .i64 a0_1)) (ds := []) #[false, false, false, false, false, false, false] (by kernel_rfl) rfl rfl ⟨(kQC BK145.out 0).trans rfl, (kQC BK145.out 1).trans rfl⟩ (fun hHeld => ?_)
 generalize w5.drew = w6 at BK145 HB hHeld ⊢
 refine tP0k 1 6 (bm 7 2) ?_
 refine tT2k 0 5 (bm 7 3) ?_
 refine tT2k 2 7 (bm 7 7) ?_
 refine one_ (i := 3) (N := some 8) (bm 7 15) rfl rfl (by kernel_rfl) (by decide) (fun K hK => ?_)
 refine goes_ Try.func96 (by kernel_rfl) rfl #[.agg #[.int .i64 a0_0, .int .i64 a0_1]] (by rfl) rfl rfl tL ?_
 with_reducible refine (spec_l01Size.calls a0_0 a0_1 t146 _ A3.out).mono ?_
 rintro e w7 ⟨rfl, hb⟩
 refine ⟨_, rfl, ?_⟩
 have n0_ := Aq.mk (tQ BK145.out hb)
 have n1_ := Aq.mk (bQT tB hb)
 clear BK145
 clear HB
 have BK145 := n0_
 have HB := n1_
 clear n0_ n1_
 (try clear hb)
 (try clear hb2)
 (try clear hk)
 (try clear hi)
 refine hK.out _ _ ⟨(kQC BK145.out 0).trans rfl, (kQC BK145.out 1).trans rfl⟩ (fun hHeld => ?_)
 clear hK K
 refine tN 8 ?_
 refine tP0k 4 9 (bm 7 31) ?_
 refine one_ (i := 5) (N := some 10) (bm 7 63) rfl rfl (by kernel_rfl) (by decide) (fun K hK => ?_)
 refine goes_ Try.func98 (by kernel_rfl) rfl #[.agg #[.int .i64 a0_0, .int .i64 a0_1], .int .i64 a1, .int .i64 (wrap64 (t146 - 2))] (by rfl) rfl rfl tL ?_
 with_reducible refine (spec_l01Power.calls k a0_0 a0_1 a1 (wrap64 (t146 - 2)) t147 _ A4.out).mono ?_
 rintro e w8 ⟨rfl, hb⟩
 refine ⟨_, rfl, ?_⟩
 have n0_ := Aq.mk (tQ BK145.out hb)
 have n1_ := Aq.mk (bQT tB hb)
 clear BK145
 clear HB
 have BK145 := n0_
 have HB := n1_
 clear n0_ n1_
 (try clear hb)
 (try clear hb2)
 (try clear hk)
 (try clear hi)
 refine hK.out _ _ ⟨(kQC BK145.out 0).trans rfl, (kQC BK145.out 1).trans rfl⟩ (fun hHeld => ?_)
 clear hK K
 refine tN 10 ?_
 refine tP0k 6 4 (bm 7 127) ?_
 refine done_ (by kernel_rfl) ?_
 try go_wp2
 go_ret
 exact ⟨tE, tB⟩
end Go.Proofs.Ytbalkaphibnpcaa.P
