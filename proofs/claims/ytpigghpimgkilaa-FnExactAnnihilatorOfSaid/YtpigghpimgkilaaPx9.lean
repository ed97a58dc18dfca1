/- Functions of the program and what they tell, as the printing program wrote it. -/
import Derived.Test.YtpigghpimgkilaaPx0
import Derived.Test.YtpigghpimgkilaaPx4
import Derived.Test.YtpigghpimgkilaaPx5
namespace Go.Proofs.Ytpigghpimgkilaa.P
open Go.Shelf Go.RowKit Go.Proofs.YtpigghpimgkilaaW.PrintWords Go.Proofs.YtpigghpimgkilaaW.PrintLast Go.Proofs.YtpigghpimgkilaaW.PrintMore
attribute [local go_sem] max2_int min2_int max_two min_two max_three min_three max_four min_four
set_option linter.unusedVariables false
set_option linter.unusedSimpArgs false
set_option maxHeartbeats 8000000
set_option maxRecDepth 100000
mutual
def impl_Field_compose.j0 : Nat → List Int → List Int → Bool → Int → Int → Option (List Int)
  | 0, _, _, _, _, _ => none
  | k + 1, x1, x2, x19, x319000, x319001 => if x19 = true then (some ([] : List Int)) else (if 0 ≤ (wrap64 ((wrap64 ((x1.length : Int) + (x2.length : Int))) - 1)) then (if (wrap64 ((wrap64 ((x1.length : Int) + (x2.length : Int))) - 1) : Int).toNat ≤ 35184372088832 then (impl_Field_compose.l0 k x2 (List.replicate (wrap64 ((wrap64 ((x1.length : Int) + (x2.length : Int))) - 1) : Int).toNat 0) x1 (x1.length : Int) 0 x319000 x319001) else (none)) else (none))
def impl_Field_compose.l0 : Nat → List Int → List Int → List Int → Int → Int → Int → Int → Option (List Int)
  | 0, _, _, _, _, _, _, _ => none
  | k + 1, x2, x7, x27, x28, x29, x319000, x319001 => if x29 < x28 then (if 0 ≤ x29 then (if x29 < (x27.length : Int) then (impl_Field_compose.l1 k x2 x7 x29 (rd x27 x29) x27 x28 x29 x2 (x2.length : Int) 0 x319000 x319001) else (none)) else (none)) else ((impl_trim.f k x7).bind fun t322 => (some t322))
def impl_Field_compose.l1 : Nat → List Int → List Int → Int → Int → List Int → Int → Int → List Int → Int → Int → Int → Int → Option (List Int)
  | 0, _, _, _, _, _, _, _, _, _, _, _, _ => none
  | k + 1, x2, x7, x8, x9, x27, x28, x29, x34, x35, x36, x319000, x319001 => if x36 < x35 then (if 0 ≤ x36 then (if x36 < (x34.length : Int) then (if 0 ≤ (wrap64 (x8 + x36)) then (if (wrap64 (x8 + x36)) < (x7.length : Int) then ((impl_Field_square.f k x319000 x319001 (rd x34 x36) x8).bind fun t328 => ((impl_Field_mul.f k x319000 x319001 x9 t328).bind fun t329 => (impl_Field_compose.l1 k x2 (x7.set ((wrap64 (x8 + x36)) : Int).toNat (Go.bits .xor .i64 (rd x7 (wrap64 (x8 + x36))) t329)) x8 x9 x27 x28 x29 x34 x35 (wrap64 (x36 + 1)) x319000 x319001))) else (none)) else (none)) else (none)) else (none)) else (impl_Field_compose.l0 k x2 x7 x27 x28 (wrap64 (x29 + 1)) x319000 x319001)
end
def impl_Field_compose.f (k : Nat) (a0_0 : Int) (a0_1 : Int) (l1 : List Int) (l2 : List Int) : Option (List Int) := if (l1.length : Int) = 0 then (impl_Field_compose.j0 k l1 l2 true a0_0 a0_1) else (impl_Field_compose.j0 k l1 l2 ((l2.length : Int) == 0) a0_0 a0_1)
theorem impl_Field_compose.mono_l : ∀ k, (∀ y0 y1 y2 y3 y4, LeO (impl_Field_compose.j0 k y0 y1 y2 y3 y4) (impl_Field_compose.j0 (k + 1) y0 y1 y2 y3 y4)) ∧ (∀ y0 y1 y2 y3 y4 y5 y6, LeO (impl_Field_compose.l0 k y0 y1 y2 y3 y4 y5 y6) (impl_Field_compose.l0 (k + 1) y0 y1 y2 y3 y4 y5 y6)) ∧ (∀ y0 y1 y2 y3 y4 y5 y6 y7 y8 y9 y10 y11, LeO (impl_Field_compose.l1 k y0 y1 y2 y3 y4 y5 y6 y7 y8 y9 y10 y11) (impl_Field_compose.l1 (k + 1) y0 y1 y2 y3 y4 y5 y6 y7 y8 y9 y10 y11))
 | 0 => ⟨fun _ _ _ _ _ r h => by simp [impl_Field_compose.j0] at h, fun _ _ _ _ _ _ _ r h => by simp [impl_Field_compose.l0] at h, fun _ _ _ _ _ _ _ _ _ _ _ _ r h => by simp [impl_Field_compose.l1] at h⟩
 | k + 1 => by
  obtain ⟨ih0, ih1, ih2⟩ := impl_Field_compose.mono_l k
  refine ⟨?_, ?_, ?_⟩ <;> intros <;> first | unfold impl_Field_compose.j0 | unfold impl_Field_compose.l0 | unfold impl_Field_compose.l1
  all_goals repeat' first
   | (with_reducible first | apply ih0 | apply ih1 | apply ih2 | apply impl_Field_mul.mono | apply impl_Field_square.mono | apply impl_trim.mono | exact LeO.refl _ | exact LeO.none _ | refine LeO.ite ?_ ?_ | refine LeO.bind ?_ (fun _ => ?_))
   | exact LeO.none _
   | refine LeO.ite ?_ ?_
   | refine LeO.bind ?_ (fun _ => ?_)
theorem impl_Field_compose.mono : ∀ a0 a1 a2 a3 k, LeO (impl_Field_compose.f k a0 a1 a2 a3) (impl_Field_compose.f (k + 1) a0 a1 a2 a3) := by
 intro a0 a1 a2 a3 k
 obtain ⟨ih0, ih1, ih2⟩ := impl_Field_compose.mono_l k
 unfold impl_Field_compose.f
 repeat' first
  | (with_reducible first | apply ih0 | apply ih1 | apply ih2 | apply impl_Field_mul.mono | apply impl_Field_square.mono | apply impl_trim.mono | exact LeO.refl _ | exact LeO.none _ | refine LeO.ite ?_ ?_ | refine LeO.bind ?_ (fun _ => ?_))
  | exact LeO.none _
  | refine LeO.ite ?_ ?_
  | refine LeO.bind ?_ (fun _ => ?_)
def impl_Field_compose.T10 : Bool × List (List Nat × List Nat) := (true, [([], []), ([], []), ([], []), ([1, 2], [1, 2]), ([0, 3], [0, 3]), ([4], [4]), ([], []), ([], []), ([], []), ([], []), ([], []), ([8, 9, 10], [8, 9, 10]), ([6, 7, 11, 11], [6, 7, 11]), ([5, 12], [5, 12]), ([0, 3, 0, 1, 2, 3, 4, 5, 6, 7, 8, 9, 10, 11, 12, 13], [0, 3]), ([14, 13, 12, 0, 1, 2, 3, 4, 5, 6, 7, 8, 9, 10, 11, 12, 13], [13, 14])])
def impl_Field_compose.B10 : List Nat := [0, 0, 0, 6, 15, 31, 0, 0, 0, 0, 0, 1792, 4032, 8191, 16383, 32767]
theorem impl_Field_compose.tab10 : rtab .any (opsOf Try.f33 10) = impl_Field_compose.T10 := by kernel_rfl
theorem impl_Field_compose.bits10 : waitsOk impl_Field_compose.T10.2 impl_Field_compose.B10 = true := by kernel_rfl
theorem impl_Field_compose.calls (k : Nat) (a0_0 : Int) (a0_1 : Int) (A1 : Option Addr) (c1 : Nat) (l1 : List Int) (A2 : Option Addr) (c2 : Nat) (l2 : List Int) (r : List Int) (w : World) (hr1 : Kd.C (Kd.int .i64) w A1 l1.length l1) (hc1 : l1.length ≤ c1) (hr2 : Kd.C (Kd.int .i64) w A2 l2.length l2) (hc2 : l2.length ≤ c2) (h : impl_Field_compose.f k a0_0 a0_1 l1 l2 = some r) :
 Calls Try.prog 33 #[.agg #[.int .i64 a0_0, .int .i64 a0_1], .slice A1 l1.length c1, .slice A2 l2.length c2] w fun e w' => ∃ v0_ : Value, e = .returned (v0_) ∧ Kd.R (Kd.int .i64) 2 w' w.heap.size (fun _ => True) v0_ r ∧ Below w.heap.size w w' := by
 have hu27 := Try.underlying27
 have HR1 := Aq.mk hr1
 have HC1 := Aq.mk hc1
 clear hr1 hc1
 have HR2 := Aq.mk hr2
 have HC2 := Aq.mk hc2
 clear hr2 hc2
 have HB := Aq.mk (Below.refl w.heap.size w)
 have H : (if (l1.length : Int) = 0 then (impl_Field_compose.j0 k l1 l2 true a0_0 a0_1) else (impl_Field_compose.j0 k l1 l2 ((l2.length : Int) == 0) a0_0 a0_1)) = some r := h
 clear h
 have HC4 := Aq.mk H
 clear H
 go_enter Try.func33, Try.ntmps33
 go_upto_region 1 with (first | ((with_reducible refine gQd (N := 3) rfl ?_); (try (refine gate_guard (by rfl) ?_; dsimp only)); refine xQe ?hg (N := 3) ?hd (cs := #[.int .i64 a0_0, .int .i64 a0_1]) (t := 27) ?hr ?_; (case hd => rfl); (case hg => rfl); (case hr => exact tH); intro gb318 hg w5 hbox hb; refine qM4 (bQT tB hb) hbox (tZ w hg) (tZ w hg) ?_; clear HB; intro HB BK318 GW318 GE318; clear hb hbox hg))
 (try simp only [Act.put, qSa, qSb, qSc])
 go_cut [19] (fun v19 wc => ∃ (kq : Nat) (x19_3 : Bool), v19 = .bool x19_3 ∧ Aq (impl_Field_compose.j0 kq l1 l2 x19_3 a0_0 a0_1 = some r) ∧ Aq (kq ≤ k) ∧ Aq (wc.heap[gb318]? = some (.cells #[.int .i64 a0_0, .int .i64 a0_1] 27 (0, 0))) ∧ Aq (Below w.heap.size w wc))
 case first =>
  have H := HC4.out
  clear HC4
  by_cases c6 : (l1.length : Int) = 0
  ·rw [if_pos c6] at H
   have c6b0 := beq_iff_eq.mpr c6
   have c6b1 := bne_eq_false_iff_eq.mpr c6
   clear c6
   (first | rw [c6b0] | (simp only [i64_w, i32_w]; rw [c6b0]) | skip)
   replace H' := Aq.mk H
   clear H
   go_wp2
   go_meet
   case rel => exact ⟨_, (true), tS, H', ⟨tO⟩, ⟨tG BK318.out⟩, ⟨tB⟩⟩
  rw [if_neg c6] at H
  have c6b0 := beq_eq_false_iff_ne.mpr c6
  have c6b1 := bne_iff_ne.mpr c6
  have c6b2 : ¬ (l1 = []) := fun h_ => c6 (by rw [h_]; rfl)
  (first | rw [c6b0] | (simp only [i64_w, i32_w]; rw [c6b0]) | skip)
  replace H' := Aq.mk H
  clear H
  go_wp2
  go_meet
  case rel => exact ⟨_, (((l2.length : Int) == 0)), tS, H', ⟨tO⟩, ⟨tG BK318.out⟩, ⟨tB⟩⟩
 clear HC4
 try clear c1
 try clear c2
 try clear c6
 try clear c6b0
 try clear c6b1
 try clear c6b2
 obtain ⟨kq, x19_3, rfl, HA, HJ3, BK318, HB⟩ := hcut
 cases kq with
 | zero => exact absurd HA.out (by simp [impl_Field_compose.j0])
 | succ kj3 =>
  have H := HA.out
  clear HA
  simp only [impl_Field_compose.j0] at H
  by_cases c7 : x19_3 = true
  ·subst c7
   rw [if_pos rfl] at H
   obtain rfl := Option.some.inj H
   go_wp2
   go_ret
   exact ⟨_, tE, by first | exact Kd.R_nil _ _ _ _ _ | exact Kd.N_nil _ _ _ _ _ | exact Kd.V_nil _ _ _ _ _ | exact Kd.Q_nil _ _ _ _ _ | exact Kd.S_nil _ _ _ _ _, tB⟩
  replace c7 := Bool.eq_false_iff.mpr c7
  subst c7
  rw [if_neg (show ¬ (false = true) by decide)] at H
  obtain ⟨ji8, hji8⟩ : ∃ j_ : Int, (wrap64 ((wrap64 ((l1.length : Int) + (l2.length : Int))) - 1)) = j_ := ⟨_, rfl⟩
  first | rw [hji8] at H | simp only [hji8] at H | skip
  have hji8w : (IntKind.i64.wrap ((wrap64 ((l1.length : Int) + (l2.length : Int))) - 1)) = ji8 := (i64_w _).trans hji8
  by_cases c9 : 0 ≤ (ji8)
  rotate_left
  ·rw [if_neg c9] at H
   exact absurd H (by simp)
  rw [if_pos c9] at H
  have c9b0 := eq_true c9
  have c9b1 := decide_eq_true c9
  clear c9
  by_cases c10 : (ji8 : Int).toNat ≤ 35184372088832
  rotate_left
  ·rw [if_neg c10] at H
   exact absurd H (by simp)
  rw [if_pos c10] at H
  have c10b0 := eq_true c10
  have c10b1 := decide_eq_true c10
  clear c10
  obtain ⟨y319, hy319⟩ : ∃ y_ : List Int, y_ = (List.replicate (ji8 : Int).toNat 0) := ⟨_, rfl⟩
  replace H : (impl_Field_compose.l0 kj3 l2 y319 l1 (l1.length : Int) 0 a0_0 a0_1) = some r := by first | (rw [hy319]; with_reducible exact H) | (have H2_ := (Option.bind_some _ _).symm.trans H; rw [hy319]; with_reducible exact H2_) | (have H2_ := (Option.bind_some _ _).symm.trans H; with_reducible exact H2_) | with_reducible exact H | (rw [hy319]; exact H) | exact H
  have Ny319 := Aq.mk hy319
  clear hy319
  replace H' := Aq.mk H
  clear H
  go_wp2_with (first | ((with_reducible refine gQd (N := 26) rfl ?_); (try (refine gate_guard (by rfl) ?_; dsimp only)); refine Kd.R_make (Kd.int .i64) _ 2 rfl (N := 26) rfl 24 _ _ rfl ji8 rfl rfl Try.underlying24 (.int .i64 0) 8 info2 rfl (by decide) (by omega) 0 (ok := fun _ => True) (okp := fun _ => True) rfl (fun _ hk => hk) trivial (of_decide_eq_true tA) (Nat.le_trans (Nat.mul_le_mul_right _ (of_decide_eq_true tA : ji8.toNat ≤ 35184372088832)) (by omega)) (Below.refl _ _) (Nat.le_refl _) ?_; intro v320 w11 ho12 hb hg_ hnew_; clear hg_ hnew_; (first | rw [← Ny319.out] at ho12 | (simp only [Int.reduceToNat] at ho12; rw [← Ny319.out] at ho12)); refine qM3 (Kd.R_lower ho12 (bQZ tB)) (tQ BK318.out hb) (bQT tB hb) ?_; clear BK318 HB; intro HO321 BK318 HB; clear hb ho12))
  go_loopg [29] kj3 (fun kq v29 w' => ∃ (x7_2 : List Int) (x29_2 : Int), v29 = .int .i64 x29_2 ∧ Aq (impl_Field_compose.l0 kq l2 x7_2 l1 (l1.length : Int) x29_2 a0_0 a0_1 = some r) ∧ Aq (kq ≤ kj3) ∧ Aq (Kd.R (Kd.int .i64) 2 w' w.heap.size (fun _ => True) v320 x7_2) ∧ Aq (w'.heap[gb318]? = some (.cells #[.int .i64 a0_0, .int .i64 a0_1] 27 (0, 0))) ∧ Aq (Below w.heap.size w w'))
  case atStart => exact ⟨(y319), (0), tS, H', ⟨Nat.le_refl _⟩, ⟨tR HO321.out⟩, ⟨tG BK318.out⟩, ⟨tB⟩⟩
  clear H'
  try clear c1
  try clear c2
  try clear c6
  try clear c6b0
  try clear c6b1
  try clear c6b2
  try clear c7
  try clear c9
  try clear c9b0
  try clear c9b1
  try clear c10
  try clear c10b0
  try clear c10b1
  obtain ⟨x7_2, x29_2, rfl, HA, HK2, HO_7, BK318, HB⟩ := hrel
  cases gk with
  | zero => exact absurd HA.out (by simp [impl_Field_compose.l0])
  | succ k2 =>
   have H := HA.out
   clear HA
   simp only [impl_Field_compose.l0] at H
   by_cases c13 : x29_2 < (l1.length : Int)
   rotate_left
   ·rw [if_neg c13] at H
    have c13b0 := decide_eq_false c13
    clear c13
    obtain ⟨t322, A30, H⟩ := qBd H
    obtain rfl := Option.some.inj H
    obtain ⟨Ao31, co31, eo31⟩ := Kd.R_slice HO_7.out
    subst eo31
    go_wp2_with (first | ((with_reducible refine gQc (f := 31) rfl ?_); refine goesL_ (some 59) rfl rfl Try.func31 (by kernel_rfl) rfl #[.slice Ao31 x7_2.length co31] rfl tL ?_; (with_reducible refine (impl_trim.calls k2 (fun k_ => some k_ = (.slice Ao31 x7_2.length co31 : Value).ownBlock) (.slice Ao31 x7_2.length co31) x7_2 t322 w _ ?s1 ?s2 A30.out).mono ?_); (case s1 => exact tB); (case s2 => exact Kd.R_tight rfl HO_7.out); rintro e w32 ⟨v323, rfl, ho0, hb, hkp⟩; refine ⟨_, rfl, ?_⟩; refine qM3 (blk_kept (tG BK318.out) hkp (fun hs_ => (fun e_ => (Kd.R_ne HO_7.out BK318.out (by decide)) e_) hs_)) (Kd.R_mono (ok' := fun k_ => True) ho0 (fun k_ hk_ => trivial)) hb ?_; clear BK318 HB HO_7; intro BK318 HO324 HB; (try clear hb); (try clear hkp); (try clear ho0)))
    go_ret
    exact ⟨_, by first | rfl | (simp [errW_none, errW_some] <;> rfl) | (simp only [← hji8]; first | rfl | (simp [errW_none, errW_some] <;> rfl)) | (simp [*, errW_none, errW_some] <;> rfl), tR HO324.out, tB⟩
   rw [if_pos c13] at H
   have c13b0 := decide_eq_true c13
   clear c13
   by_cases c14 : 0 ≤ x29_2
   rotate_left
   ·rw [if_neg c14] at H
    exact absurd H (by simp)
   rw [if_pos c14] at H
   have c14b0 := decide_eq_true c14
   clear c14
   by_cases c15 : x29_2 < (l1.length : Int)
   rotate_left
   ·rw [if_neg c15] at H
    exact absurd H (by simp)
   rw [if_pos c15] at H
   have c15b0 := decide_eq_true c15
   clear c15
   replace H' := Aq.mk H
   clear H
   have p325 : 0 ≤ (x29_2 : Int) := of_decide_eq_true tA
   have q325 : x29_2 < (l1.length : Int) := of_decide_eq_true tA
   obtain ⟨ad325, e325, hx325_0⟩ := Kd.at_int HR1.out x29_2 p325 q325
   cases e325
   replace hx325_0 := (HB.out.cell (World.block_lt_of_cell? w _ hx325_0)).trans hx325_0
   replace p325 := eq_true p325
   replace q325 := eq_true q325
   go_wp2
   go_loopg [36] k2 (fun kq v36 w' => ∃ (x7_3 : List Int) (x36_3 : Int), v36 = .int .i64 x36_3 ∧ Aq (impl_Field_compose.l1 kq l2 x7_3 x29_2 (rd l1 x29_2) l1 (l1.length : Int) x29_2 l2 (l2.length : Int) x36_3 a0_0 a0_1 = some r) ∧ Aq (kq ≤ k2) ∧ Aq (Kd.R (Kd.int .i64) 2 w' w.heap.size (fun _ => True) v320 x7_3) ∧ Aq (w'.heap[gb318]? = some (.cells #[.int .i64 a0_0, .int .i64 a0_1] 27 (0, 0))) ∧ Aq (Below w.heap.size w w'))
   case atStart => exact ⟨(x7_2), (0), tS, H', ⟨Nat.le_refl _⟩, ⟨tR HO_7.out⟩, ⟨tG BK318.out⟩, ⟨tB⟩⟩
   clear H'
   try clear c1
   try clear c2
   try clear c6
   try clear c6b0
   try clear c6b1
   try clear c6b2
   try clear c7
   try clear c9
   try clear c9b0
   try clear c9b1
   try clear c10
   try clear c10b0
   try clear c10b1
   try clear c13
   try clear c13b0
   try clear c14
   try clear c14b0
   try clear c15
   try clear c15b0
   try clear hx325_0
   try clear p325
   try clear q325
   obtain ⟨x7_3, x36_3, rfl, HA, HK3, HO_7, BK318, HB⟩ := hrel
   cases gk with
   | zero => exact absurd HA.out (by simp [impl_Field_compose.l1])
   | succ k3 =>
    have H := HA.out
    clear HA
    simp only [impl_Field_compose.l1] at H
    by_cases c16 : x36_3 < (l2.length : Int)
    rotate_left
    ·rw [if_neg c16] at H
     have c16b0 := decide_eq_false c16
     clear c16
     replace H' := Aq.mk H
     clear H
     go_wp2
     go_roundg k3
     case measure => have := HJ3.out; have := HK2.out; have := HK3.out; omega
     case rel => exact ⟨(x7_3), (wrap64 (x29_2 + 1)), tS, H', ⟨by have := HJ3.out; have := HK2.out; have := HK3.out; omega⟩, ⟨tR HO_7.out⟩, ⟨tG BK318.out⟩, ⟨tB⟩⟩
    rw [if_pos c16] at H
    have c16b0 := decide_eq_true c16
    clear c16
    by_cases c17 : 0 ≤ x36_3
    rotate_left
    ·rw [if_neg c17] at H
     exact absurd H (by simp)
    rw [if_pos c17] at H
    have c17b0 := decide_eq_true c17
    clear c17
    by_cases c18 : x36_3 < (l2.length : Int)
    rotate_left
    ·rw [if_neg c18] at H
     exact absurd H (by simp)
    rw [if_pos c18] at H
    have c18b0 := decide_eq_true c18
    clear c18
    obtain ⟨ji19, hji19⟩ : ∃ j_ : Int, (wrap64 (x29_2 + x36_3)) = j_ := ⟨_, rfl⟩
    first | rw [hji19] at H | simp only [hji19] at H | skip
    have hji19w : (IntKind.i64.wrap (x29_2 + x36_3)) = ji19 := (i64_w _).trans hji19
    by_cases c20 : 0 ≤ (ji19)
    rotate_left
    ·rw [if_neg c20] at H
     exact absurd H (by simp)
    rw [if_pos c20] at H
    have c20b0 := decide_eq_true c20
    clear c20
    by_cases c21 : (ji19) < (x7_3.length : Int)
    rotate_left
    ·rw [if_neg c21] at H
     exact absurd H (by simp)
    rw [if_pos c21] at H
    have c21b0 := decide_eq_true c21
    clear c21
    obtain ⟨t328, A22, H⟩ := qBd H
    obtain ⟨t329, A23, H⟩ := qBd H
    obtain ⟨y330, hy330⟩ : ∃ y_ : List Int, y_ = (x7_3.set ((ji19) : Int).toNat (Go.bits .xor .i64 (rd x7_3 (ji19)) t329)) := ⟨_, rfl⟩
    replace H : (impl_Field_compose.l1 k3 l2 y330 x29_2 (rd l1 x29_2) l1 (l1.length : Int) x29_2 l2 (l2.length : Int) (wrap64 (x36_3 + 1)) a0_0 a0_1) = some r := by first | (rw [hy330]; with_reducible exact H) | (have H2_ := (Option.bind_some _ _).symm.trans H; rw [hy330]; with_reducible exact H2_) | (have H2_ := (Option.bind_some _ _).symm.trans H; with_reducible exact H2_) | with_reducible exact H | (rw [hy330]; exact H) | exact H
    have Ny330 := Aq.mk hy330
    clear hy330
    replace H' := Aq.mk H
    clear H
    have p326 : 0 ≤ (x36_3 : Int) := of_decide_eq_true tA
    have q326 : x36_3 < (l2.length : Int) := of_decide_eq_true tA
    obtain ⟨ad326, e326, hx326_0⟩ := Kd.at_int HR2.out x36_3 p326 q326
    cases e326
    replace hx326_0 := (HB.out.cell (World.block_lt_of_cell? w _ hx326_0)).trans hx326_0
    replace p326 := eq_true p326
    replace q326 := eq_true q326
    try go_wp2
    have n0_ := Aq.mk (Kd.RqD HO_7.out)
    have n1_ := Aq.mk (kQD BK318.out)
    have n2_ := Aq.mk (bQ1 HB.out)
    clear HO_7
    clear BK318
    clear HB
    have HO_7 := n0_
    have BK318 := n1_
    have HB := n2_
    clear n0_ n1_ n2_
    obtain ⟨Ao26, co26, eo26⟩ := Kd.R_slice HO_7.out
    (first | subst eo26 | (injection eo26 with f1_ f2_ f3_; have f4_ := f1_.symm; have f5_ := f3_.symm; clear f1_ f2_ f3_; subst f4_; subst f5_))
    have p327 : 0 ≤ ((ji19) : Int) := of_decide_eq_true tA
    have q327 : (ji19) < (x7_3.length : Int) := of_decide_eq_true tA
    obtain ⟨ad327, e327, hx327_0⟩ := Kd.at_int (Kd.R_reads' HO_7.out).2.2 (ji19) p327 q327
    cases e327
    replace p327 := eq_true p327
    replace q327 := eq_true q327
    refine start_ (n := 16) (S := fun w' => w'.cell? ⟨gb318, 0, none⟩ = some (.int .i64 a0_0) ∧ w'.cell? ⟨gb318, 1, none⟩ = some (.int .i64 a0_1) ∧ w'.cell? (ad327.add ((ji19)).toNat) = some (.int .i64 (rd x7_3 (ji19)))) (ds := [15]) #[false, false, false, false, false, false, false, false, false, false, false, false, false, false, false, false] (by kernel_rfl) rfl rfl ⟨(kQC BK318.out 0).trans rfl, (kQC BK318.out 1).trans rfl, hx327_0⟩ (fun hHeld => ?_); refine with_tabW impl_Field_compose.tab10 impl_Field_compose.bits10 (fun HT_ HW_ => ?_)
    generalize wr.drew = w25 at HO_7 BK318 HB hx327_0 hHeld ⊢
    refine tP0 0 41 (bm 16 1) ?_
    refine tP0 1 42 (bm 16 3) ?_
    refine tP0 2 43 (bm 16 7) ?_
    refine tP0 3 44 (bm 16 15) ?_
    refine tP0 4 45 (bm 16 31) ?_
    refine tP0 7 48 (bm 16 159) ?_
    refine tP0 9 50 (bm 16 671) ?_
    refine tP0 10 51 (bm 16 1695) ?_
    refine tT3 5 46 (bm 16 1727) ?_
    refine tT3 6 47 (bm 16 1791) ?_
    refine tT3 8 49 (bm 16 2047) ?_
    refine one_ (i := 11) (N := some 52) (bm 16 4095) rfl rfl (one_of HT_.out (by kernel_rfl)) (by decide) (fun K hK => ?_)
    refine goes_ Try.func56 (by kernel_rfl) rfl #[.agg #[.int .i64 a0_0, .int .i64 a0_1], .int .i64 (rd l2 x36_3), .int .i64 x29_2] (by rfl) rfl rfl tL ?_
    with_reducible refine (impl_Field_square.calls k3 a0_0 a0_1 (rd l2 x36_3) x29_2 t328 _ A22.out).mono ?_
    rintro e w27 ⟨rfl, hb⟩
    have HS2_ := (hb.cell (World.block_lt_of_cell? _ _ (hHeld.2.2))).trans (hHeld.2.2)
    refine ⟨_, rfl, ?_⟩
    have n0_ := Aq.mk (Kd.R_below (tR HO_7.out) hb)
    have n1_ := Aq.mk (tQ BK318.out hb)
    have n2_ := Aq.mk (bQT tB hb)
    clear HO_7
    clear BK318
    clear HB
    have HO_7 := n0_
    have BK318 := n1_
    have HB := n2_
    clear n0_ n1_ n2_
    (try clear hb)
    (try clear hb2)
    (try clear hk)
    (try clear hi)
    refine hK.out _ _ ⟨(kQC BK318.out 0).trans rfl, (kQC BK318.out 1).trans rfl, HS2_⟩ (fun hHeld => ?_)
    clear hK K
    refine tN 52 ?_
    refine one_ (i := 12) (N := some 53) (bm 16 8191) rfl rfl (one_of HT_.out (by kernel_rfl)) (by decide) (fun K hK => ?_)
    refine goes_ Try.func57 (by kernel_rfl) rfl #[.agg #[.int .i64 a0_0, .int .i64 a0_1], .int .i64 (rd l1 x29_2), .int .i64 t328] (by rfl) rfl rfl tL ?_
    with_reducible refine (impl_Field_mul.calls k3 a0_0 a0_1 (rd l1 x29_2) t328 t329 _ A23.out).mono ?_
    rintro e w28 ⟨rfl, hb⟩
    have HS2_ := (hb.cell (World.block_lt_of_cell? _ _ (hHeld.2.2))).trans (hHeld.2.2)
    refine ⟨_, rfl, ?_⟩
    have n0_ := Aq.mk (Kd.R_below (tR HO_7.out) hb)
    have n1_ := Aq.mk (tQ BK318.out hb)
    have n2_ := Aq.mk (bQT tB hb)
    clear HO_7
    clear BK318
    clear HB
    have HO_7 := n0_
    have BK318 := n1_
    have HB := n2_
    clear n0_ n1_ n2_
    (try clear hb)
    (try clear hb2)
    (try clear hk)
    (try clear hi)
    have p24 : 0 ≤ ((ji19) : Int) := of_decide_eq_true tA
    have q24 : ((ji19) : Int) < ((x7_3.length : Int) : Int) := of_decide_eq_true tA
    obtain ⟨go24, co24, eo24, gb24, gl24, cl24, HG24⟩ := Kd.R_form HO_7.out (by omega)
    (first | cases eo24 | (injection eo24 with ea_ en_ ec_; (first | subst ea_ | (injection ea_ with ea_; subst ea_)); subst ec_; clear en_))
    have GB24 := Aq.mk gb24
    have GG24 := Aq.mk HG24
    clear gb24 gl24 HG24
    (first | simp only [add_plain] at hx327_0 | skip)
    obtain ⟨hx24_0, hf24_0⟩ := Kd.R_celln 0 HO_7.out ((ji19) : Int) p24 q24
    replace p24 := eq_true p24
    replace q24 := eq_true q24
    have HP29 := Kd.R_putn HO_7.out ((ji19) : Int) (Go.bits .xor .i64 (rd x7_3 (ji19)) t329)
    rw [← Ny330.out] at HP29
    have HQ29 := Aq.mk HP29
    clear HP29
    refine hK.out _ _ ⟨(kQC BK318.out 0).trans rfl, (kQC BK318.out 1).trans rfl, HS2_⟩ (fun hHeld => ?_)
    clear hK K
    refine tN 53 ?_
    refine tP0 13 54 (bm 16 16383) ?_
    refine tP0 14 55 (bm 16 32767) ?_
    refine last_ (i := 15) (N := none) #[true, true, true, true, true, true, true, true, true, true, true, true, true, true, true, true] rfl rfl (one_of HT_.out (by kernel_rfl)) (by decide) (fun K hK => ?_)
    refine skip_ (w1 := ?_) (by rfl) rfl ?_ ?_
    rotate_left
    ·go_simp
     rfl
    refine hK.out _ _ ?_
    clear hK K
    refine done_ (done_of HT_.out (by kernel_rfl)) ?_
    try go_wp2
    go_roundg k3
    case measure => have := HJ3.out; have := HK2.out; have := HK3.out; omega
    case rel => exact ⟨(y330), (wrap64 (x36_3 + 1)), tS, H', ⟨by have := HJ3.out; have := HK2.out; have := HK3.out; omega⟩, ⟨tR HQ29.out⟩, ⟨by (with_reducible repeat (first | refine kQN ?_ _ | refine kQD ?_ | refine kQA ?_ _)); refine kQR ?_ (by have h_ := Kd.R_ne HO_7.out BK318.out (by decide); intro e_; exact h_ (by rw [e_]; rfl)) _; (with_reducible repeat (first | refine kQN ?_ _ | refine kQD ?_ | refine kQA ?_ _)); exact BK318.out⟩, ⟨by repeat (first | (with_reducible first | exact HB.out | apply bQA | apply bQN | apply bQ1 | refine bQS ?_ GB24.out | refine bQS ?_ GE318.out) | exact HB.out)⟩⟩
end Go.Proofs.Ytpigghpimgkilaa.P
