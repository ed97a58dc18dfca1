/- Functions of the program and what they tell, as the printing program wrote it. -/
import Derived.Test.YtkhjoomjjdgkjaaPx0
import Derived.Test.YtkhjoomjjdgkjaaPx2
import Derived.Test.YtkhjoomjjdgkjaaPx10
namespace Go.Proofs.Ytkhjoomjjdgkjaa.P
open Go.Shelf Go.RowKit Go.Proofs.YtkhjoomjjdgkjaaW.PrintWords Go.Proofs.YtkhjoomjjdgkjaaW.PrintLast Go.Proofs.YtkhjoomjjdgkjaaW.PrintMore
attribute [local go_sem] max2_int min2_int max_two min_two max_three min_three max_four min_four
set_option linter.unusedVariables false
set_option linter.unusedSimpArgs false
set_option maxHeartbeats 8000000
set_option maxRecDepth 100000
mutual
def spec_l03Compose.j0 : Nat → List Int → List Int → Bool → Int → Int → Option (List Int)
  | 0, _, _, _, _, _ => none
  | k + 1, x1, x2, x17, x167000, x167001 => if x17 = true then (some (([] : List Int))) else (if 0 ≤ (wrap64 ((wrap64 ((x1.length : Int) + (x2.length : Int))) - 1)) then (if (wrap64 ((wrap64 ((x1.length : Int) + (x2.length : Int))) - 1) : Int).toNat ≤ 35184372088832 then (spec_l03Compose.l0 k x1 x2 (List.replicate (wrap64 ((wrap64 ((x1.length : Int) + (x2.length : Int))) - 1) : Int).toNat 0) 0 x167000 x167001) else (none)) else (none))
def spec_l03Compose.l0 : Nat → List Int → List Int → List Int → Int → Int → Int → Option (List Int)
  | 0, _, _, _, _, _, _ => none
  | k + 1, x1, x2, x7, x8, x167000, x167001 => if x8 < (x1.length : Int) then (spec_l03Compose.l1 k x1 x2 x7 x8 0 x167000 x167001) else ((spec_l03Trim.f k x7).bind fun t173 => (some t173))
def spec_l03Compose.l1 : Nat → List Int → List Int → List Int → Int → Int → Int → Int → Option (List Int)
  | 0, _, _, _, _, _, _, _ => none
  | k + 1, x1, x2, x7, x8, x9, x167000, x167001 => if x9 < (x2.length : Int) then (if 0 ≤ (wrap64 (x8 + x9)) then (if (wrap64 (x8 + x9)) < (x7.length : Int) then (if 0 ≤ x8 then (if x8 < (x1.length : Int) then (if 0 ≤ x9 then ((spec_l01Square.f k x167000 x167001 (rd x2 x9) x8).bind fun t179 => ((spec_l01Mul.f k x167000 x167001 (rd x1 x8) t179).bind fun t180 => (spec_l03Compose.l1 k x1 x2 (x7.set ((wrap64 (x8 + x9)) : Int).toNat (Go.bits .xor .i64 (rd x7 (wrap64 (x8 + x9))) t180)) x8 (wrap64 (x9 + 1)) x167000 x167001))) else (none)) else (none)) else (none)) else (none)) else (none)) else (spec_l03Compose.l0 k x1 x2 x7 (wrap64 (x8 + 1)) x167000 x167001)
end
def spec_l03Compose.f (k : Nat) (a0_0 : Int) (a0_1 : Int) (l1 : List Int) (l2 : List Int) : Option (List Int) := if (l1.length : Int) = 0 then (spec_l03Compose.j0 k l1 l2 true a0_0 a0_1) else (spec_l03Compose.j0 k l1 l2 ((l2.length : Int) == 0) a0_0 a0_1)
theorem spec_l03Compose.mono_l : ∀ k, (∀ y0 y1 y2 y3 y4, LeO (spec_l03Compose.j0 k y0 y1 y2 y3 y4) (spec_l03Compose.j0 (k + 1) y0 y1 y2 y3 y4)) ∧ (∀ y0 y1 y2 y3 y4 y5, LeO (spec_l03Compose.l0 k y0 y1 y2 y3 y4 y5) (spec_l03Compose.l0 (k + 1) y0 y1 y2 y3 y4 y5)) ∧ (∀ y0 y1 y2 y3 y4 y5 y6, LeO (spec_l03Compose.l1 k y0 y1 y2 y3 y4 y5 y6) (spec_l03Compose.l1 (k + 1) y0 y1 y2 y3 y4 y5 y6))
 | 0 => ⟨fun _ _ _ _ _ r h => by simp [spec_l03Compose.j0] at h, fun _ _ _ _ _ _ r h => by simp [spec_l03Compose.l0] at h, fun _ _ _ _ _ _ _ r h => by simp [spec_l03Compose.l1] at h⟩
 | k + 1 => by
  obtain ⟨ih0, ih1, ih2⟩ := spec_l03Compose.mono_l k
  refine ⟨?_, ?_, ?_⟩ <;> intros <;> first | unfold spec_l03Compose.j0 | unfold spec_l03Compose.l0 | unfold spec_l03Compose.l1
  all_goals repeat' first
   | (with_reducible first | apply ih0 | apply ih1 | apply ih2 | apply spec_l01Mul.mono | apply spec_l01Square.mono | apply spec_l03Trim.mono | exact LeO.refl _ | exact LeO.none _ | refine LeO.ite ?_ ?_ | refine LeO.bind ?_ (fun _ => ?_))
   | exact LeO.none _
   | refine LeO.ite ?_ ?_
   | refine LeO.bind ?_ (fun _ => ?_)
theorem spec_l03Compose.mono : ∀ a0 a1 a2 a3 k, LeO (spec_l03Compose.f k a0 a1 a2 a3) (spec_l03Compose.f (k + 1) a0 a1 a2 a3) := by
 intro a0 a1 a2 a3 k
 obtain ⟨ih0, ih1, ih2⟩ := spec_l03Compose.mono_l k
 unfold spec_l03Compose.f
 repeat' first
  | (with_reducible first | apply ih0 | apply ih1 | apply ih2 | apply spec_l01Mul.mono | apply spec_l01Square.mono | apply spec_l03Trim.mono | exact LeO.refl _ | exact LeO.none _ | refine LeO.ite ?_ ?_ | refine LeO.bind ?_ (fun _ => ?_))
  | exact LeO.none _
  | refine LeO.ite ?_ ?_
  | refine LeO.bind ?_ (fun _ => ?_)
def spec_l03Compose.T10 : Bool × List (List Nat × List Nat) := (true, [([], []), ([], []), ([], []), ([1, 2], [1, 2]), ([0, 3], [0, 3]), ([4], [4]), ([], []), ([], []), ([], []), ([7, 8], [7, 8]), ([9], [9]), ([], []), ([], []), ([], []), ([12, 13], [12, 13]), ([14], [14]), ([], []), ([11, 15, 16], [11, 15, 16]), ([6, 10, 17, 17], [6, 10, 17]), ([5, 18], [5, 18]), ([0, 3, 0, 1, 2, 3, 4, 5, 6, 7, 8, 9, 10, 11, 12, 13, 14, 15, 16, 17, 18, 19], [0, 3]), ([20, 19, 18, 0, 1, 2, 3, 4, 5, 6, 7, 8, 9, 10, 11, 12, 13, 14, 15, 16, 17, 18, 19], [19, 20])])
def spec_l03Compose.B10 : List Nat := [0, 0, 0, 6, 15, 31, 0, 0, 0, 384, 896, 0, 0, 0, 12288, 28672, 0, 129024, 262080, 524287, 1048575, 2097151]
theorem spec_l03Compose.tab10 : rtab .any (opsOf Try.f66 10) = spec_l03Compose.T10 := by kernel_rfl
theorem spec_l03Compose.bits10 : waitsOk spec_l03Compose.T10.2 spec_l03Compose.B10 = true := by kernel_rfl
theorem spec_l03Compose.calls (k : Nat) (a0_0 : Int) (a0_1 : Int) (A1 : Option Addr) (c1 : Nat) (l1 : List Int) (A2 : Option Addr) (c2 : Nat) (l2 : List Int) (r : List Int) (w : World) (hr1 : Kd.C (Kd.int .i64) w A1 l1.length l1) (hc1 : l1.length ≤ c1) (hr2 : Kd.C (Kd.int .i64) w A2 l2.length l2) (hc2 : l2.length ≤ c2) (h : spec_l03Compose.f k a0_0 a0_1 l1 l2 = some r) :
 Calls Try.prog 66 #[.agg #[.int .i64 a0_0, .int .i64 a0_1], .slice A1 l1.length c1, .slice A2 l2.length c2] w fun e w' => ∃ v0_ : Value, e = .returned (v0_) ∧ Kd.R (Kd.int .i64) 2 w' w.heap.size (fun _ => True) v0_ r ∧ Below w.heap.size w w' := by
 have hu27 := Try.underlying27
 have HR1 := Aq.mk hr1
 have HC1 := Aq.mk hc1
 clear hr1 hc1
 have HR2 := Aq.mk hr2
 have HC2 := Aq.mk hc2
 clear hr2 hc2
 have HB := Aq.mk (Below.refl w.heap.size w)
 have H : (if (l1.length : Int) = 0 then (spec_l03Compose.j0 k l1 l2 true a0_0 a0_1) else (spec_l03Compose.j0 k l1 l2 ((l2.length : Int) == 0) a0_0 a0_1)) = some r := h
 clear h
 have HC4 := Aq.mk H
 clear H
 go_enter Try.func66, Try.ntmps66
 go_upto_region 1 with (first | ((with_reducible refine gQd (N := 3) rfl ?_); (try (refine gate_guard (by rfl) ?_; dsimp only)); refine xQe ?hg (N := 3) ?hd (cs := #[.int .i64 a0_0, .int .i64 a0_1]) (t := 27) ?hr ?_; (case hd => rfl); (case hg => rfl); (case hr => exact tH); intro gb166 hg w5 hbox hb; refine qM4 (bQT tB hb) hbox (tZ w hg) (tZ w hg) ?_; clear HB; intro HB BK166 GW166 GE166; clear hb hbox hg))
 (try simp only [Act.put, qSa, qSb, qSc])
 go_cut [17] (fun v17 wc => ∃ (kq : Nat) (x17_3 : Bool), v17 = .bool x17_3 ∧ Aq (spec_l03Compose.j0 kq l1 l2 x17_3 a0_0 a0_1 = some r) ∧ Aq (kq ≤ k) ∧ Aq (wc.heap[gb166]? = some (.cells #[.int .i64 a0_0, .int .i64 a0_1] 27 (0, 0))) ∧ Aq (Below w.heap.size w wc))
 case first =>
  have H := HC4.out
  clear HC4
  by_cases c6 : (l1.length : Int) = 0
  ·rw [if_pos c6] at H
   have c6b0 := beq_iff_eq.mpr c6
   have c6b1 := bne_eq_false_iff_eq.mpr c6
   clear c6
   (first | rw [c6b0] | (simp only [i64_w, i32_w]; rw [c6b0]) | skip)
   replace H' := Aq.mk H
   clear H
   go_wp2
   go_meet
   case rel => exact ⟨_, (true), tS, H', ⟨tO⟩, ⟨tG BK166.out⟩, ⟨tB⟩⟩
  rw [if_neg c6] at H
  have c6b0 := beq_eq_false_iff_ne.mpr c6
  have c6b1 := bne_iff_ne.mpr c6
  have c6b2 : ¬ (l1 = []) := fun h_ => c6 (by rw [h_]; rfl)
  (first | rw [c6b0] | (simp only [i64_w, i32_w]; rw [c6b0]) | skip)
  replace H' := Aq.mk H
  clear H
  go_wp2
  go_meet
  case rel => exact ⟨_, (((l2.length : Int) == 0)), tS, H', ⟨tO⟩, ⟨tG BK166.out⟩, ⟨tB⟩⟩
 clear HC4
 try clear c1
 try clear c2
 try clear c6
 try clear c6b0
 try clear c6b1
 try clear c6b2
 obtain ⟨kq, x17_3, rfl, HA, HJ3, BK166, HB⟩ := hcut
 cases kq with
 | zero => exact absurd HA.out (by simp [spec_l03Compose.j0])
 | succ kj3 =>
  have H := HA.out
  clear HA
  simp only [spec_l03Compose.j0] at H
  by_cases c7 : x17_3 = true
  ·subst c7
   rw [if_pos rfl] at H
   obtain ⟨y167, hy167⟩ : ∃ y_ : List Int, y_ = (([] : List Int)) := ⟨_, rfl⟩
   replace H : (some y167) = some r := by first | (rw [hy167]; with_reducible exact H) | (have H2_ := (Option.bind_some _ _).symm.trans H; rw [hy167]; with_reducible exact H2_) | (have H2_ := (Option.bind_some _ _).symm.trans H; with_reducible exact H2_) | with_reducible exact H | (rw [hy167]; exact H) | exact H
   have Ny167 := Aq.mk hy167
   clear hy167
   obtain rfl := Option.some.inj H
   go_wp2_with (first | ((with_reducible refine gQd (N := 18) rfl ?_); (try (refine gate_guard (by rfl) ?_; dsimp only)); refine Kd.R_lit (Kd.int .i64) _ 2 ?hg (N := 18) ?hd (xs := ([] : List Int)) (inner := []) (ok := fun _ => True) (okp := fun _ => True) ?hr ?hp (fun _ hk => hk) trivial (Below.refl _ _) (Nat.le_refl _) (by simp) ?_; (case hd => rfl); (case hg => rfl); (case hr => exact tH); (case hp => exact (Reps.none _ _)); intro v168 w8 ho9 hb hg_ hnew_; clear hg_ hnew_; (first | rw [← Ny167.out] at ho9 | (simp only [Int.reduceToNat] at ho9; rw [← Ny167.out] at ho9)); refine qM3 (Kd.R_lower ho9 (bQZ tB)) (tQ BK166.out hb) (bQT tB hb) ?_; clear BK166 HB; intro HO169 BK166 HB; clear hb ho9))
   go_ret
   exact ⟨_, tE, tR HO169.out, tB⟩
  replace c7 := Bool.eq_false_iff.mpr c7
  subst c7
  rw [if_neg (show ¬ (false = true) by decide)] at H
  obtain ⟨ji10, hji10⟩ : ∃ j_ : Int, (wrap64 ((wrap64 ((l1.length : Int) + (l2.length : Int))) - 1)) = j_ := ⟨_, rfl⟩
  first | rw [hji10] at H | simp only [hji10] at H | skip
  have hji10w : (IntKind.i64.wrap ((wrap64 ((l1.length : Int) + (l2.length : Int))) - 1)) = ji10 := (i64_w _).trans hji10
  by_cases c11 : 0 ≤ (ji10)
  rotate_left
  ·rw [if_neg c11] at H
   exact absurd H (by simp)
  rw [if_pos c11] at H
  have c11b0 := eq_true c11
  have c11b1 := decide_eq_true c11
  clear c11
  by_cases c12 : (ji10 : Int).toNat ≤ 35184372088832
  rotate_left
  ·rw [if_neg c12] at H
   exact absurd H (by simp)
  rw [if_pos c12] at H
  have c12b0 := eq_true c12
  have c12b1 := decide_eq_true c12
  clear c12
  obtain ⟨y170, hy170⟩ : ∃ y_ : List Int, y_ = (List.replicate (ji10 : Int).toNat 0) := ⟨_, rfl⟩
  replace H : (spec_l03Compose.l0 kj3 l1 l2 y170 0 a0_0 a0_1) = some r := by first | (rw [hy170]; with_reducible exact H) | (have H2_ := (Option.bind_some _ _).symm.trans H; rw [hy170]; with_reducible exact H2_) | (have H2_ := (Option.bind_some _ _).symm.trans H; with_reducible exact H2_) | with_reducible exact H | (rw [hy170]; exact H) | exact H
  have Ny170 := Aq.mk hy170
  clear hy170
  replace H' := Aq.mk H
  clear H
  go_wp2_with (first | ((with_reducible refine gQd (N := 25) rfl ?_); (try (refine gate_guard (by rfl) ?_; dsimp only)); refine Kd.R_make (Kd.int .i64) _ 2 rfl (N := 25) rfl 24 _ _ rfl ji10 rfl rfl Try.underlying24 (.int .i64 0) 8 info2 rfl (by decide) (by omega) 0 (ok := fun _ => True) (okp := fun _ => True) rfl (fun _ hk => hk) trivial (of_decide_eq_true tA) (Nat.le_trans (Nat.mul_le_mul_right _ (of_decide_eq_true tA : ji10.toNat ≤ 35184372088832)) (by omega)) (Below.refl _ _) (Nat.le_refl _) ?_; intro v171 w13 ho14 hb hg_ hnew_; clear hg_ hnew_; (first | rw [← Ny170.out] at ho14 | (simp only [Int.reduceToNat] at ho14; rw [← Ny170.out] at ho14)); refine qM3 (Kd.R_lower ho14 (bQZ tB)) (tQ BK166.out hb) (bQT tB hb) ?_; clear BK166 HB; intro HO172 BK166 HB; clear hb ho14))
  go_loopg [8] kj3 (fun kq v8 w' => ∃ (x7_2 : List Int) (x8_2 : Int), v8 = .int .i64 x8_2 ∧ Aq (spec_l03Compose.l0 kq l1 l2 x7_2 x8_2 a0_0 a0_1 = some r) ∧ Aq (kq ≤ kj3) ∧ Aq (Kd.R (Kd.int .i64) 2 w' w.heap.size (fun _ => True) v171 x7_2) ∧ Aq (w'.heap[gb166]? = some (.cells #[.int .i64 a0_0, .int .i64 a0_1] 27 (0, 0))) ∧ Aq (Below w.heap.size w w'))
  case atStart => exact ⟨(y170), (0), tS, H', ⟨Nat.le_refl _⟩, ⟨tR HO172.out⟩, ⟨tG BK166.out⟩, ⟨tB⟩⟩
  clear H'
  try clear c1
  try clear c2
  try clear c6
  try clear c6b0
  try clear c6b1
  try clear c6b2
  try clear c7
  try clear c11
  try clear c11b0
  try clear c11b1
  try clear c12
  try clear c12b0
  try clear c12b1
  obtain ⟨x7_2, x8_2, rfl, HA, HK2, HO_7, BK166, HB⟩ := hrel
  cases gk with
  | zero => exact absurd HA.out (by simp [spec_l03Compose.l0])
  | succ k2 =>
   have H := HA.out
   clear HA
   simp only [spec_l03Compose.l0] at H
   by_cases c15 : x8_2 < (l1.length : Int)
   rotate_left
   ·rw [if_neg c15] at H
    have c15b0 := decide_eq_false c15
    clear c15
    obtain ⟨t173, A31, H⟩ := qBd H
    obtain rfl := Option.some.inj H
    obtain ⟨Ao32, co32, eo32⟩ := Kd.R_slice HO_7.out
    subst eo32
    go_wp2_with (first | ((with_reducible refine gQc (f := 71) rfl ?_); refine goesL_ (some 60) rfl rfl Try.func71 (by kernel_rfl) rfl #[.slice Ao32 x7_2.length co32] rfl tL ?_; (with_reducible refine (spec_l03Trim.calls k2 _ _ x7_2 t173 _ ?s1 ?s2 A31.out).mono ?_); (case s1 => exact tC ((Kd.R_reads' HO_7.out).2.2)); (case s2 => exact (Kd.R_reads' HO_7.out).2.1); rintro e w33 ⟨v174, rfl, ho0, hb⟩; refine ⟨_, rfl, ?_⟩; refine qM4 (Kd.R_elder' (tR HO_7.out) (Kd.R_base ho0) hb) (Kd.R_lower (Kd.R_new' ho0 (Kd.R_lt (tR HO_7.out))) (bQZ tB)) (tQ BK166.out hb) (bQT tB hb) ?_; clear HO_7 BK166 HB; intro HO_7 HO175 BK166 HB; (try clear hb); (try clear hb2); (try clear hk); (try clear hi); (try clear ho0)))
    go_ret
    exact ⟨_, by first | rfl | (simp [errW_none, errW_some] <;> rfl) | (simp only [← hji10]; first | rfl | (simp [errW_none, errW_some] <;> rfl)) | (simp [*, errW_none, errW_some] <;> rfl), by (with_reducible repeat (first | apply Kd.RqA | apply Kd.RqN | apply Kd.RqD)); exact Kd.R_mono HO175.out (fun _ hk => trivial), tB⟩
   rw [if_pos c15] at H
   have c15b0 := decide_eq_true c15
   clear c15
   replace H' := Aq.mk H
   clear H
   go_wp2
   go_loopg [9] k2 (fun kq v9 w' => ∃ (x7_3 : List Int) (x9_3 : Int), v9 = .int .i64 x9_3 ∧ Aq (spec_l03Compose.l1 kq l1 l2 x7_3 x8_2 x9_3 a0_0 a0_1 = some r) ∧ Aq (kq ≤ k2) ∧ Aq (Kd.R (Kd.int .i64) 2 w' w.heap.size (fun _ => True) v171 x7_3) ∧ Aq (w'.heap[gb166]? = some (.cells #[.int .i64 a0_0, .int .i64 a0_1] 27 (0, 0))) ∧ Aq (Below w.heap.size w w'))
   case atStart => exact ⟨(x7_2), (0), tS, H', ⟨Nat.le_refl _⟩, ⟨tR HO_7.out⟩, ⟨tG BK166.out⟩, ⟨tB⟩⟩
   clear H'
   try clear c1
   try clear c2
   try clear c6
   try clear c6b0
   try clear c6b1
   try clear c6b2
   try clear c7
   try clear c11
   try clear c11b0
   try clear c11b1
   try clear c12
   try clear c12b0
   try clear c12b1
   try clear c15
   try clear c15b0
   obtain ⟨x7_3, x9_3, rfl, HA, HK3, HO_7, BK166, HB⟩ := hrel
   cases gk with
   | zero => exact absurd HA.out (by simp [spec_l03Compose.l1])
   | succ k3 =>
    have H := HA.out
    clear HA
    simp only [spec_l03Compose.l1] at H
    by_cases c16 : x9_3 < (l2.length : Int)
    rotate_left
    ·rw [if_neg c16] at H
     have c16b0 := decide_eq_false c16
     clear c16
     replace H' := Aq.mk H
     clear H
     go_wp2
     go_roundg k3
     case measure => have := HJ3.out; have := HK2.out; have := HK3.out; omega
     case rel => exact ⟨(x7_3), (wrap64 (x8_2 + 1)), tS, H', ⟨by have := HJ3.out; have := HK2.out; have := HK3.out; omega⟩, ⟨tR HO_7.out⟩, ⟨tG BK166.out⟩, ⟨tB⟩⟩
    rw [if_pos c16] at H
    have c16b0 := decide_eq_true c16
    clear c16
    obtain ⟨ji17, hji17⟩ : ∃ j_ : Int, (wrap64 (x8_2 + x9_3)) = j_ := ⟨_, rfl⟩
    first | rw [hji17] at H | simp only [hji17] at H | skip
    have hji17w : (IntKind.i64.wrap (x8_2 + x9_3)) = ji17 := (i64_w _).trans hji17
    by_cases c18 : 0 ≤ (ji17)
    rotate_left
    ·rw [if_neg c18] at H
     exact absurd H (by simp)
    rw [if_pos c18] at H
    have c18b0 := decide_eq_true c18
    clear c18
    by_cases c19 : (ji17) < (x7_3.length : Int)
    rotate_left
    ·rw [if_neg c19] at H
     exact absurd H (by simp)
    rw [if_pos c19] at H
    have c19b0 := decide_eq_true c19
    clear c19
    by_cases c20 : 0 ≤ x8_2
    rotate_left
    ·rw [if_neg c20] at H
     exact absurd H (by simp)
    rw [if_pos c20] at H
    have c20b0 := decide_eq_true c20
    clear c20
    by_cases c21 : x8_2 < (l1.length : Int)
    rotate_left
    ·rw [if_neg c21] at H
     exact absurd H (by simp)
    rw [if_pos c21] at H
    have c21b0 := decide_eq_true c21
    clear c21
    by_cases c22 : 0 ≤ x9_3
    rotate_left
    ·rw [if_neg c22] at H
     exact absurd H (by simp)
    rw [if_pos c22] at H
    have c22b0 := decide_eq_true c22
    clear c22
    obtain ⟨t179, A23, H⟩ := qBd H
    obtain ⟨t180, A24, H⟩ := qBd H
    obtain ⟨y181, hy181⟩ : ∃ y_ : List Int, y_ = (x7_3.set ((ji17) : Int).toNat (Go.bits .xor .i64 (rd x7_3 (ji17)) t180)) := ⟨_, rfl⟩
    replace H : (spec_l03Compose.l1 k3 l1 l2 y181 x8_2 (wrap64 (x9_3 + 1)) a0_0 a0_1) = some r := by first | (rw [hy181]; with_reducible exact H) | (have H2_ := (Option.bind_some _ _).symm.trans H; rw [hy181]; with_reducible exact H2_) | (have H2_ := (Option.bind_some _ _).symm.trans H; with_reducible exact H2_) | with_reducible exact H | (rw [hy181]; exact H) | exact H
    have Ny181 := Aq.mk hy181
    clear hy181
    replace H' := Aq.mk H
    clear H
    try go_wp2
    have n0_ := Aq.mk (Kd.RqD HO_7.out)
    have n1_ := Aq.mk (kQD BK166.out)
    have n2_ := Aq.mk (bQ1 HB.out)
    clear HO_7
    clear BK166
    clear HB
    have HO_7 := n0_
    have BK166 := n1_
    have HB := n2_
    clear n0_ n1_ n2_
    obtain ⟨Ao27, co27, eo27⟩ := Kd.R_slice HO_7.out
    (first | subst eo27 | (injection eo27 with f1_ f2_ f3_; have f4_ := f1_.symm; have f5_ := f3_.symm; clear f1_ f2_ f3_; subst f4_; subst f5_))
    have p176 : 0 ≤ ((ji17) : Int) := of_decide_eq_true tA
    have q176 : (ji17) < (x7_3.length : Int) := of_decide_eq_true tA
    obtain ⟨ad176, e176, hx176_0⟩ := Kd.at_int (Kd.R_reads' HO_7.out).2.2 (ji17) p176 q176
    cases e176
    replace p176 := eq_true p176
    replace q176 := eq_true q176
    have p177 : 0 ≤ (x8_2 : Int) := of_decide_eq_true tA
    have q177 : x8_2 < (l1.length : Int) := of_decide_eq_true tA
    obtain ⟨ad177, e177, hx177_0⟩ := Kd.at_int HR1.out x8_2 p177 q177
    have hw177_0 := hx177_0
    cases e177
    replace hx177_0 := (HB.out.cell (World.block_lt_of_cell? w _ hx177_0)).trans hx177_0
    replace p177 := eq_true p177
    replace q177 := eq_true q177
    have p178 : 0 ≤ (x9_3 : Int) := of_decide_eq_true tA
    have q178 : x9_3 < (l2.length : Int) := of_decide_eq_true tA
    obtain ⟨ad178, e178, hx178_0⟩ := Kd.at_int HR2.out x9_3 p178 q178
    have hw178_0 := hx178_0
    cases e178
    replace hx178_0 := (HB.out.cell (World.block_lt_of_cell? w _ hx178_0)).trans hx178_0
    replace p178 := eq_true p178
    replace q178 := eq_true q178
    refine start_ (n := 22) (S := fun w' => w'.cell? ⟨gb166, 0, none⟩ = some (.int .i64 a0_0) ∧ w'.cell? ⟨gb166, 1, none⟩ = some (.int .i64 a0_1) ∧ w'.cell? (ad176.add ((ji17)).toNat) = some (.int .i64 (rd x7_3 (ji17))) ∧ w'.cell? (ad177.add (x8_2).toNat) = some (.int .i64 (rd l1 x8_2)) ∧ w'.cell? (ad178.add (x9_3).toNat) = some (.int .i64 (rd l2 x9_3))) (ds := [21]) #[false, false, false, false, false, false, false, false, false, false, false, false, false, false, false, false, false, false, false, false, false, false] (by kernel_rfl) rfl rfl ⟨(kQC BK166.out 0).trans rfl, (kQC BK166.out 1).trans rfl, hx176_0, (tcw tB hw177_0), (tcw tB hw178_0)⟩ (fun hHeld => ?_); refine with_tabW spec_l03Compose.tab10 spec_l03Compose.bits10 (fun HT_ HW_ => ?_)
    generalize wr.drew = w26 at HO_7 BK166 HB hx176_0 hx177_0 hx178_0 hHeld ⊢
    refine tP0 0 38 (bm 22 1) ?_
    refine tP0 1 39 (bm 22 3) ?_
    refine tP0 2 40 (bm 22 7) ?_
    refine tP0 3 41 (bm 22 15) ?_
    refine tP0 4 42 (bm 22 31) ?_
    refine tP0 7 45 (bm 22 159) ?_
    refine tP0 8 46 (bm 22 415) ?_
    refine tP0 9 47 (bm 22 927) ?_
    refine tP0 12 50 (bm 22 5023) ?_
    refine tP0 13 51 (bm 22 13215) ?_
    refine tP0 14 52 (bm 22 29599) ?_
    refine tP0 16 54 (bm 22 95135) ?_
    refine tT5 5 43 (bm 22 95167) ?_
    refine tT5 6 44 (bm 22 95231) ?_
    refine tT5 10 48 (bm 22 96255) ?_
    refine tT5 11 49 (bm 22 98303) ?_
    refine tT5 15 53 (bm 22 131071) ?_
    refine one_ (i := 17) (N := some 55) (bm 22 262143) rfl rfl (one_of HT_.out (by kernel_rfl)) (by decide) (fun K hK => ?_)
    refine goes_ Try.func63 (by kernel_rfl) rfl #[.agg #[.int .i64 a0_0, .int .i64 a0_1], .int .i64 (rd l2 x9_3), .int .i64 x8_2] (by rfl) rfl rfl tL ?_
    with_reducible refine (spec_l01Square.calls k3 a0_0 a0_1 (rd l2 x9_3) x8_2 t179 _ A23.out).mono ?_
    rintro e w28 ⟨rfl, hb⟩
    have HS2_ := (hb.cell (World.block_lt_of_cell? _ _ (hHeld.2.2.1))).trans (hHeld.2.2.1)
    refine ⟨_, rfl, ?_⟩
    have n0_ := Aq.mk (Kd.R_below (tR HO_7.out) hb)
    have n1_ := Aq.mk (tQ BK166.out hb)
    have n2_ := Aq.mk (bQT tB hb)
    clear HO_7
    clear BK166
    clear HB
    have HO_7 := n0_
    have BK166 := n1_
    have HB := n2_
    clear n0_ n1_ n2_
    (try clear hb)
    (try clear hb2)
    (try clear hk)
    (try clear hi)
    refine hK.out _ _ ⟨(kQC BK166.out 0).trans rfl, (kQC BK166.out 1).trans rfl, HS2_, (tcw tB hw177_0), (tcw tB hw178_0)⟩ (fun hHeld => ?_)
    clear hK K
    refine tN 55 ?_
    refine one_ (i := 18) (N := some 56) (bm 22 524287) rfl rfl (one_of HT_.out (by kernel_rfl)) (by decide) (fun K hK => ?_)
    refine goes_ Try.func61 (by kernel_rfl) rfl #[.agg #[.int .i64 a0_0, .int .i64 a0_1], .int .i64 (rd l1 x8_2), .int .i64 t179] (by rfl) rfl rfl tL ?_
    with_reducible refine (spec_l01Mul.calls k3 a0_0 a0_1 (rd l1 x8_2) t179 t180 _ A24.out).mono ?_
    rintro e w29 ⟨rfl, hb⟩
    have HS2_ := (hb.cell (World.block_lt_of_cell? _ _ (hHeld.2.2.1))).trans (hHeld.2.2.1)
    refine ⟨_, rfl, ?_⟩
    have n0_ := Aq.mk (Kd.R_below (tR HO_7.out) hb)
    have n1_ := Aq.mk (tQ BK166.out hb)
    have n2_ := Aq.mk (bQT tB hb)
    clear HO_7
    clear BK166
    clear HB
    have HO_7 := n0_
    have BK166 := n1_
    have HB := n2_
    clear n0_ n1_ n2_
    (try clear hb)
    (try clear hb2)
    (try clear hk)
    (try clear hi)
    have p25 : 0 ≤ ((ji17) : Int) := of_decide_eq_true tA
    have q25 : ((ji17) : Int) < ((x7_3.length : Int) : Int) := of_decide_eq_true tA
    obtain ⟨go25, co25, eo25, gb25, gl25, cl25, HG25⟩ := Kd.R_form HO_7.out (by omega)
    (first | cases eo25 | (injection eo25 with ea_ en_ ec_; (first | subst ea_ | (injection ea_ with ea_; subst ea_)); subst ec_; clear en_))
    have GB25 := Aq.mk gb25
    have GG25 := Aq.mk HG25
    clear gb25 gl25 HG25
    (first | simp only [add_plain] at hx176_0 | skip)
    obtain ⟨hx25_0, hf25_0⟩ := Kd.R_celln 0 HO_7.out ((ji17) : Int) p25 q25
    replace p25 := eq_true p25
    replace q25 := eq_true q25
    have HP30 := Kd.R_putn HO_7.out ((ji17) : Int) (Go.bits .xor .i64 (rd x7_3 (ji17)) t180)
    rw [← Ny181.out] at HP30
    have HQ30 := Aq.mk HP30
    clear HP30
    refine hK.out _ _ ⟨(kQC BK166.out 0).trans rfl, (kQC BK166.out 1).trans rfl, HS2_, (tcw tB hw177_0), (tcw tB hw178_0)⟩ (fun hHeld => ?_)
    clear hK K
    refine tN 56 ?_
    refine tP0 19 57 (bm 22 1048575) ?_
    refine tP0 20 58 (bm 22 2097151) ?_
    refine last_ (i := 21) (N := none) #[true, true, true, true, true, true, true, true, true, true, true, true, true, true, true, true, true, true, true, true, true, true] rfl rfl (one_of HT_.out (by kernel_rfl)) (by decide) (fun K hK => ?_)
    refine skip_ (w1 := ?_) (by rfl) rfl ?_ ?_
    rotate_left
    ·go_simp
     rfl
    refine hK.out _ _ ?_
    clear hK K
    refine done_ (done_of HT_.out (by kernel_rfl)) ?_
    try go_wp2
    go_roundg k3
    case measure => have := HJ3.out; have := HK2.out; have := HK3.out; omega
    case rel => exact ⟨(y181), (wrap64 (x9_3 + 1)), tS, H', ⟨by have := HJ3.out; have := HK2.out; have := HK3.out; omega⟩, ⟨tR HQ30.out⟩, ⟨by (with_reducible repeat (first | refine kQN ?_ _ | refine kQD ?_ | refine kQA ?_ _)); refine kQR ?_ (by have h_ := Kd.R_ne HO_7.out BK166.out (by decide); intro e_; exact h_ (by rw [e_]; rfl)) _; (with_reducible repeat (first | refine kQN ?_ _ | refine kQD ?_ | refine kQA ?_ _)); exact BK166.out⟩, ⟨by repeat (first | (with_reducible first | exact HB.out | apply bQA | apply bQN | apply bQ1 | refine bQS ?_ GB25.out | refine bQS ?_ GE166.out) | exact HB.out)⟩⟩
def laws_toField.f (a0_0 : Int) (a0_1 : Int) : Option (Int × Int) := some (a0_0, a0_1)
theorem laws_toField.calls (a0_0 : Int) (a0_1 : Int) (r1 : Int) (r2 : Int) (w : World) (h : laws_toField.f a0_0 a0_1 = some (r1, r2)) :
 Calls Try.prog 9 #[.agg #[.int .i64 a0_0, .int .i64 a0_1]] w fun e w' => e = .returned (.agg #[.int .i64 r1, .int .i64 r2]) ∧ Below w.heap.size w w' := by
 have hu23 := Try.underlying23
 have hu27 := Try.underlying27
 have HB := Aq.mk (Below.refl w.heap.size w)
 have H : (some (a0_0, a0_1)) = some (r1, r2) := h
 clear h
 simp only [Option.some.injEq, Prod.mk.injEq] at H
 obtain ⟨rfl, rfl⟩ := H
 go_enter Try.func9, Try.ntmps9
 go_wp2_with (first | ((with_reducible refine gQd (N := 1) rfl ?_); refine xQe ?hg (N := 1) ?hd (cs := #[.int .i64 a0_0, .int .i64 a0_1]) (t := 23) ?hr ?_; (case hd => rfl); (case hg => rfl); (case hr => exact tH); intro gb220 hg w2 hbox hb; refine qM4 (bQT tB hb) hbox (tZ w hg) (tZ w hg) ?_; clear HB; intro HB BK220 GW220 GE220; clear hb hbox hg) | ((with_reducible refine gQd (N := 2) rfl ?_); refine xQe ?hg (N := 2) ?hd (cs := #[.int .i64 0, .int .i64 0]) (t := 27) ?hr ?_; (case hd => rfl); (case hg => rfl); (case hr => exact tH); intro gb221 hg w3 hbox hb; refine qM7 (tQ BK220.out hb) (bQT tB hb) hbox (tZ w hg) (tZ w hg) ((by rw [hg]; exact Nat.ne_of_lt (blk_lt (g := gb220) (o := .cells #[.int .i64 a0_0, .int .i64 a0_1] 23 (0, 0)) (tG BK220.out)) : gb220 ≠ gb221)) ((by rw [hg]; exact Nat.ne_of_gt (blk_lt (g := gb220) (o := .cells #[.int .i64 a0_0, .int .i64 a0_1] 23 (0, 0)) (tG BK220.out)) : gb221 ≠ gb220)) ?_; clear BK220 HB; intro BK220 HB BK221 GW221 GE221 NB220_221 NB221_220; clear hb hbox hg) | ((with_reducible refine gQd (N := 3) rfl ?_); refine xQe ?hg (N := 3) ?hd (cs := #[.int .i64 0, .int .i64 0]) (t := 27) ?hr ?_; (case hd => rfl); (case hg => rfl); (case hr => exact tH); intro gb222 hg w4 hbox hb; refine qM10 (tQ BK220.out hb) (tQ BK221.out hb) (bQT tB hb) hbox (tZ w hg) (tZ w hg) ((by rw [hg]; exact Nat.ne_of_lt (blk_lt (g := gb220) (o := .cells #[.int .i64 a0_0, .int .i64 a0_1] 23 (0, 0)) (tG BK220.out)) : gb220 ≠ gb222)) ((by rw [hg]; exact Nat.ne_of_gt (blk_lt (g := gb220) (o := .cells #[.int .i64 a0_0, .int .i64 a0_1] 23 (0, 0)) (tG BK220.out)) : gb222 ≠ gb220)) ((by rw [hg]; exact Nat.ne_of_lt (blk_lt (g := gb221) (o := .cells #[.int .i64 0, .int .i64 0] 27 (0, 0)) (tG BK221.out)) : gb221 ≠ gb222)) ((by rw [hg]; exact Nat.ne_of_gt (blk_lt (g := gb221) (o := .cells #[.int .i64 0, .int .i64 0] 27 (0, 0)) (tG BK221.out)) : gb222 ≠ gb221)) ?_; clear BK220 BK221 HB; intro BK220 BK221 HB BK222 GW222 GE222 NB220_222 NB222_220 NB221_222 NB222_221; clear hb hbox hg; have hnb5 := NB220_221.out; have hnc5 := NB221_220.out; have hnb6 := NB220_222.out; have hnc6 := NB222_220.out; have hcz7_0 : w4.cell? ⟨gb220, 0, none⟩ = some (.int .i64 a0_0) := (kQC BK220.out 0).trans rfl; have hcz7_1 : w4.cell? ⟨gb220, 1, none⟩ = some (.int .i64 a0_1) := (kQC BK220.out 1).trans rfl; have hfz7_0 := kQF BK220.out 0; have hfz7_1 := kQF BK220.out 1; have hnb8 := NB222_221.out; have hnc8 := NB221_222.out; have hcz9_0 : w4.cell? ⟨gb222, 0, none⟩ = some (.int .i64 0) := (kQC BK222.out 0).trans rfl; have hcz9_1 : w4.cell? ⟨gb222, 1, none⟩ = some (.int .i64 0) := (kQC BK222.out 1).trans rfl; have hfz9_0 := kQF BK222.out 0; have hfz9_1 := kQF BK222.out 1; have hcz10_0 : w4.cell? ⟨gb221, 0, none⟩ = some (.int .i64 0) := (kQC BK221.out 0).trans rfl; have hcz10_1 : w4.cell? ⟨gb221, 1, none⟩ = some (.int .i64 0) := (kQC BK221.out 1).trans rfl; have hfz10_0 := kQF BK221.out 0; have hfz10_1 := kQF BK221.out 1))
 refine bodyPost_ret (results_cell_row rfl _ _ gb221 27 #[.int .i64 a0_0, .int .i64 a0_1] (0, 0) _ rfl (by (with_reducible repeat (first | refine kQN ?_ _ | refine kQD ?_ | refine kQA ?_ _)); refine kQP (cs := #[.int .i64 a0_0, .int .i64 0]) ?_ 1 _ rfl; (with_reducible repeat (first | refine kQN ?_ _ | refine kQD ?_ | refine kQA ?_ _)); refine kQP (cs := #[.int .i64 0, .int .i64 0]) ?_ 0 _ rfl; (with_reducible repeat (first | refine kQN ?_ _ | refine kQD ?_ | refine kQA ?_ _)); refine kQR ?_ NB221_222.out _; (with_reducible repeat (first | refine kQN ?_ _ | refine kQD ?_ | refine kQA ?_ _)); refine kQR ?_ NB221_222.out _; (with_reducible repeat (first | refine kQN ?_ _ | refine kQD ?_ | refine kQA ?_ _)); exact BK221.out) Try.underlying27 rfl (by kernel_rfl)) rfl ?_
 exact ⟨tE, tB⟩
end Go.Proofs.Ytkhjoomjjdgkjaa.P
