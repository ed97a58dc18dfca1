/- Functions of the program and what they tell, as the printing program wrote it. -/
import Derived.Test.YtkhjoomjjdgkjaaPx0
import Derived.Test.YtkhjoomjjdgkjaaPx4
import Derived.Test.YtkhjoomjjdgkjaaPx5
namespace Go.Proofs.Ytkhjoomjjdgkjaa.P
open Go.Shelf Go.RowKit Go.Proofs.YtkhjoomjjdgkjaaW.PrintWords Go.Proofs.YtkhjoomjjdgkjaaW.PrintLast Go.Proofs.YtkhjoomjjdgkjaaW.PrintMore
attribute [local go_sem] max2_int min2_int max_two min_two max_three min_three max_four min_four
set_option linter.unusedVariables false
set_option linter.unusedSimpArgs false
set_option maxHeartbeats 8000000
set_option maxRecDepth 100000
mutual
def impl_Field_compose.j0 : Nat → List Int → List Int → Bool → Int → Int → Option (List Int)
  | 0, _, _, _, _, _ => none
  | k + 1, x1, x2, x19, x266000, x266001 => if x19 = true then (some ([] : List Int)) else (if 0 ≤ (wrap64 ((wrap64 ((x1.length : Int) + (x2.length : Int))) - 1)) then (if (wrap64 ((wrap64 ((x1.length : Int) + (x2.length : Int))) - 1) : Int).toNat ≤ 35184372088832 then (impl_Field_compose.l0 k x2 (List.replicate (wrap64 ((wrap64 ((x1.length : Int) + (x2.length : Int))) - 1) : Int).toNat 0) x1 (x1.length : Int) 0 x266000 x266001) else (none)) else (none))
def impl_Field_compose.l0 : Nat → List Int → List Int → List Int → Int → Int → Int → Int → Option (List Int)
  | 0, _, _, _, _, _, _, _ => none
  | k + 1, x2, x7, x27, x28, x29, x266000, x266001 => if x29 < x28 then (if 0 ≤ x29 then (if x29 < (x27.length : Int) then (impl_Field_compose.l1 k x2 x7 x29 (rd x27 x29) x27 x28 x29 x2 (x2.length : Int) 0 x266000 x266001) else (none)) else (none)) else ((impl_trim.f k x7).bind fun t269 => (some t269))
def impl_Field_compose.l1 : Nat → List Int → List Int → Int → Int → List Int → Int → Int → List Int → Int → Int → Int → Int → Option (List Int)
  | 0, _, _, _, _, _, _, _, _, _, _, _, _ => none
  | k + 1, x2, x7, x8, x9, x27, x28, x29, x34, x35, x36, x266000, x266001 => if x36 < x35 then (if 0 ≤ x36 then (if x36 < (x34.length : Int) then (if 0 ≤ (wrap64 (x8 + x36)) then (if (wrap64 (x8 + x36)) < (x7.length : Int) then ((impl_Field_square.f k x266000 x266001 (rd x34 x36) x8).bind fun t275 => ((impl_Field_mul.f k x266000 x266001 x9 t275).bind fun t276 => (impl_Field_compose.l1 k x2 (x7.set ((wrap64 (x8 + x36)) : Int).toNat (Go.bits .xor .i64 (rd x7 (wrap64 (x8 + x36))) t276)) x8 x9 x27 x28 x29 x34 x35 (wrap64 (x36 + 1)) x266000 x266001))) else (none)) else (none)) else (none)) else (none)) else (impl_Field_compose.l0 k x2 x7 x27 x28 (wrap64 (x29 + 1)) x266000 x266001)
end
def impl_Field_compose.f (k : Nat) (a0_0 : Int) (a0_1 : Int) (l1 : List Int) (l2 : List Int) : Option (List Int) := if (l1.length : Int) = 0 then (impl_Field_compose.j0 k l1 l2 true a0_0 a0_1) else (impl_Field_compose.j0 k l1 l2 ((l2.length : Int) == 0) a0_0 a0_1)
theorem impl_Field_compose.mono_l : ∀ k, (∀ y0 y1 y2 y3 y4, LeO (impl_Field_compose.j0 k y0 y1 y2 y3 y4) (impl_Field_compose.j0 (k + 1) y0 y1 y2 y3 y4)) ∧ (∀ y0 y1 y2 y3 y4 y5 y6, LeO (impl_Field_compose.l0 k y0 y1 y2 y3 y4 y5 y6) (impl_Field_compose.l0 (k + 1) y0 y1 y2 y3 y4 y5 y6)) ∧ (∀ y0 y1 y2 y3 y4 y5 y6 y7 y8 y9 y10 y11, LeO (impl_Field_compose.l1 k y0 y1 y2 y3 y4 y5 y6 y7 y8 y9 y10 y11) (impl_Field_compose.l1 (k + 1) y0 y1 y2 y3 y4 y5 y6 y7 y8 y9 y10 y11))
 | 0 => ⟨fun _ _ _ _ _ r h => by simp [impl_Field_compose.j0] at h, fun _ _ _ _ _ _ _ r h => by simp [impl_Field_compose.l0] at h, fun _ _ _ _ _ _ _ _ _ _ _ _ r h => by simp [impl_Field_compose.l1] at h⟩
 | k + 1 => by
  obtain ⟨ih0, ih1, ih2⟩ := impl_Field_compose.mono_l k
  refine ⟨?_, ?_, ?_⟩ <;> intros <;> first | unfold impl_Field_compose.j0 | unfold impl_Field_compose.l0 | unfold impl_Field_compose.l1
  all_goals repeat' first
   | (with_reducible first | apply ih0 | apply ih1 | apply ih2 | apply impl_Field_mul.mono | apply impl_Field_square.mono | apply impl_trim.mono | exact LeO.refl _ | exact LeO.none _ | refine LeO.ite ?_ ?_ | refine LeO.bind ?_ (fun _ => ?_))
   | exact LeO.none _
   | refine LeO.ite ?_ ?_
   | refine LeO.bind ?_ (fun _ => ?_)
theorem impl_Field_compose.mono : ∀ a0 a1 a2 a3 k, LeO (impl_Field_compose.f k a0 a1 a2 a3) (impl_Field_compose.f (k + 1) a0 a1 a2 a3) := by
 intro a0 a1 a2 a3 k
 obtain ⟨ih0, ih1, ih2⟩ := impl_Field_compose.mono_l k
 unfold impl_Field_compose.f
 repeat' first
  | (with_reducible first | apply ih0 | apply ih1 | apply ih2 | apply impl_Field_mul.mono | apply impl_Field_square.mono | apply impl_trim.mono | exact LeO.refl _ | exact LeO.none _ | refine LeO.ite ?_ ?_ | refine LeO.bind ?_ (fun _ => ?_))
  | exact LeO.none _
  | refine LeO.ite ?_ ?_
  | refine LeO.bind ?_ (fun _ => ?_)
def impl_Field_compose.T10 : Bool × List (List Nat × List Nat) := (true, [([], []), ([], []), ([], []), ([1, 2], [1, 2]), ([0, 3], [0, 3]), ([4], [4]), ([], []), ([], []), ([], []), ([], []), ([], []), ([8, 9, 10], [8, 9, 10]), ([6, 7, 11, 11], [6, 7, 11]), ([5, 12], [5, 12]), ([0, 3, 0, 1, 2, 3, 4, 5, 6, 7, 8, 9, 10, 11, 12, 13], [0, 3]), ([14, 13, 12, 0, 1, 2, 3, 4, 5, 6, 7, 8, 9, 10, 11, 12, 13], [13, 14])])
def impl_Field_compose.B10 : List Nat := [0, 0, 0, 6, 15, 31, 0, 0, 0, 0, 0, 1792, 4032, 8191, 16383, 32767]
theorem impl_Field_compose.tab10 : rtab .any (opsOf Try.f42 10) = impl_Field_compose.T10 := by kernel_rfl
theorem impl_Field_compose.bits10 : waitsOk impl_Field_compose.T10.2 impl_Field_compose.B10 = true := by kernel_rfl
theorem impl_Field_compose.calls (k : Nat) (a0_0 : Int) (a0_1 : Int) (A1 : Option Addr) (c1 : Nat) (l1 : List Int) (A2 : Option Addr) (c2 : Nat) (l2 : List Int) (r : List Int) (w : World) (hr1 : Kd.C (Kd.int .i64) w A1 l1.length l1) (hc1 : l1.length ≤ c1) (hr2 : Kd.C (Kd.int .i64) w A2 l2.length l2) (hc2 : l2.length ≤ c2) (h : impl_Field_compose.f k a0_0 a0_1 l1 l2 = some r) :
 Calls Try.prog 42 #[.agg #[.int .i64 a0_0, .int .i64 a0_1], .slice A1 l1.length c1, .slice A2 l2.length c2] w fun e w' => ∃ v0_ : Value, e = .returned (v0_) ∧ Kd.R (Kd.int .i64) 2 w' w.heap.size (fun _ => True) v0_ r ∧ Below w.heap.size w w' := by
 have hu27 := Try.underlying27
 have HR1 := Aq.mk hr1
 have HC1 := Aq.mk hc1
 clear hr1 hc1
 have HR2 := Aq.mk hr2
 have HC2 := Aq.mk hc2
 clear hr2 hc2
 have HB := Aq.mk (Below.refl w.heap.size w)
 have H : (if (l1.length : Int) = 0 then (impl_Field_compose.j0 k l1 l2 true a0_0 a0_1) else (impl_Field_compose.j0 k l1 l2 ((l2.length : Int) == 0) a0_0 a0_1)) = some r := h
 clear h
 have HC4 := Aq.mk H
 clear H
 go_enter Try.func42, Try.ntmps42
 go_upto_region 1 with (first | ((with_reducible refine gQd (N := 3) rfl ?_); (try (refine gate_guard (by rfl) ?_; dsimp only)); refine xQe ?hg (N := 3) ?hd (cs := #[.int .i64 a0_0, .int .i64 a0_1]) (t := 27) ?hr ?_; (case hd => rfl); (case hg => rfl); (case hr => exact tH); intro gb265 hg w5 hbox hb; refine qM4 (bQT tB hb) hbox (tZ w hg) (tZ w hg) ?_; clear HB; intro HB BK265 GW265 GE265; clear hb hbox hg))
 (try simp only [Act.put, qSa, qSb, qSc])
 go_cut [19] (fun v19 wc => ∃ (kq : Nat) (x19_3 : Bool), v19 = .bool x19_3 ∧ Aq (impl_Field_compose.j0 kq l1 l2 x19_3 a0_0 a0_1 = some r) ∧ Aq (kq ≤ k) ∧ Aq (wc.heap[gb265]? = some (.cells #[.int .i64 a0_0, .int .i64 a0_1] 27 (0, 0))) ∧ Aq (Below w.heap.size w wc))
 case first =>
  have H := HC4.out
  clear HC4
  by_cases c6 : (l1.length : Int) = 0
  ·rw [if_pos c6] at H
   have c6b0 := beq_iff_eq.mpr c6
   have c6b1 := bne_eq_false_iff_eq.mpr c6
   clear c6
   (first | rw [c6b0] | (simp only [i64_w, i32_w]; rw [c6b0]) | skip)
   replace H' := Aq.mk H
   clear H
   go_wp2
   go_meet
   case rel => exact ⟨_, (true), tS, H', ⟨tO⟩, ⟨tG BK265.out⟩, ⟨tB⟩⟩
  rw [if_neg c6] at H
  have c6b0 := beq_eq_false_iff_ne.mpr c6
  have c6b1 := bne_iff_ne.mpr c6
  have c6b2 : ¬ (l1 = []) := fun h_ => c6 (by rw [h_]; rfl)
  (first | rw [c6b0] | (simp only [i64_w, i32_w]; rw [c6b0]) | skip)
  replace H' := Aq.mk H
  clear H
  go_wp2
  go_meet
  case rel => exact ⟨_, (((l2.length : Int) == 0)), tS, H', ⟨tO⟩, ⟨tG BK265.out⟩, ⟨tB⟩⟩
 clear HC4
 try clear c1
 try clear c2
 try clear c6
 try clear c6b0
 try clear c6b1
 try clear c6b2
 obtain ⟨kq, x19_3, rfl, HA, HJ3, BK265, HB⟩ := hcut
 cases kq with
 | zero => exact absurd HA.out (by simp [impl_Field_compose.j0])
 | succ kj3 =>
  have H := HA.out
  clear HA
  simp only [impl_Field_compose.j0] at H
  by_cases c7 : x19_3 = true
  ·subst c7
   rw [if_pos rfl] at H
   obtain rfl := Option.some.inj H
   go_wp2
   go_ret
   exact ⟨_, tE, by first | exact Kd.R_nil _ _ _ _ _ | exact Kd.N_nil _ _ _ _ _ | exact Kd.V_nil _ _ _ _ _ | exact Kd.Q_nil _ _ _ _ _ | exact Kd.S_nil _ _ _ _ _, tB⟩
  replace c7 := Bool.eq_false_iff.mpr c7
  subst c7
  rw [if_neg (show ¬ (false = true) by decide)] at H
  obtain ⟨ji8, hji8⟩ : ∃ j_ : Int, (wrap64 ((wrap64 ((l1.length : Int) + (l2.length : Int))) - 1)) = j_ := ⟨_, rfl⟩
  first | rw [hji8] at H | simp only [hji8] at H | skip
  have hji8w : (IntKind.i64.wrap ((wrap64 ((l1.length : Int) + (l2.length : Int))) - 1)) = ji8 := (i64_w _).trans hji8
  by_cases c9 : 0 ≤ (ji8)
  rotate_left
  ·rw [if_neg c9] at H
   exact absurd H (by simp)
  rw [if_pos c9] at H
  have c9b0 := eq_true c9
  have c9b1 := decide_eq_true c9
  clear c9
  by_cases c10 : (ji8 : Int).toNat ≤ 35184372088832
  rotate_left
  ·rw [if_neg c10] at H
   exact absurd H (by simp)
  rw [if_pos c10] at H
  have c10b0 := eq_true c10
  have c10b1 := decide_eq_true c10
  clear c10
  obtain ⟨y266, hy266⟩ : ∃ y_ : List Int, y_ = (List.replicate (ji8 : Int).toNat 0) := ⟨_, rfl⟩
  replace H : (impl_Field_compose.l0 kj3 l2 y266 l1 (l1.length : Int) 0 a0_0 a0_1) = some r := by first | (rw [hy266]; with_reducible exact H) | (have H2_ := (Option.bind_some _ _).symm.trans H; rw [hy266]; with_reducible exact H2_) | (have H2_ := (Option.bind_some _ _).symm.trans H; with_reducible exact H2_) | with_reducible exact H | (rw [hy266]; exact H) | exact H
  have Ny266 := Aq.mk hy266
  clear hy266
  replace H' := Aq.mk H
  clear H
  go_wp2_with (first | ((with_reducible refine gQd (N := 26) rfl ?_); (try (refine gate_guard (by rfl) ?_; dsimp only)); refine Kd.R_make (Kd.int .i64) _ 2 rfl (N := 26) rfl 24 _ _ rfl ji8 rfl rfl Try.underlying24 (.int .i64 0) 8 info2 rfl (by decide) (by omega) 0 (ok := fun _ => True) (okp := fun _ => True) rfl (fun _ hk => hk) trivial (of_decide_eq_true tA) (Nat.le_trans (Nat.mul_le_mul_right _ (of_decide_eq_true tA : ji8.toNat ≤ 35184372088832)) (by omega)) (Below.refl _ _) (Nat.le_refl _) ?_; intro v267 w11 ho12 hb hg_ hnew_; clear hg_ hnew_; (first | rw [← Ny266.out] at ho12 | (simp only [Int.reduceToNat] at ho12; rw [← Ny266.out] at ho12)); refine qM3 (Kd.R_lower ho12 (bQZ tB)) (tQ BK265.out hb) (bQT tB hb) ?_; clear BK265 HB; intro HO268 BK265 HB; clear hb ho12))
  go_loopg [29] kj3 (fun kq v29 w' => ∃ (x7_2 : List Int) (x29_2 : Int), v29 = .int .i64 x29_2 ∧ Aq (impl_Field_compose.l0 kq l2 x7_2 l1 (l1.length : Int) x29_2 a0_0 a0_1 = some r) ∧ Aq (kq ≤ kj3) ∧ Aq (Kd.R (Kd.int .i64) 2 w' w.heap.size (fun _ => True) v267 x7_2) ∧ Aq (w'.heap[gb265]? = some (.cells #[.int .i64 a0_0, .int .i64 a0_1] 27 (0, 0))) ∧ Aq (Below w.heap.size w w'))
  case atStart => exact ⟨(y266), (0), tS, H', ⟨Nat.le_refl _⟩, ⟨tR HO268.out⟩, ⟨tG BK265.out⟩, ⟨tB⟩⟩
  clear H'
  try clear c1
  try clear c2
  try clear c6
  try clear c6b0
  try clear c6b1
  try clear c6b2
  try clear c7
  try clear c9
  try clear c9b0
  try clear c9b1
  try clear c10
  try clear c10b0
  try clear c10b1
  obtain ⟨x7_2, x29_2, rfl, HA, HK2, HO_7, BK265, HB⟩ := hrel
  cases gk with
  | zero => exact absurd HA.out (by simp [impl_Field_compose.l0])
  | succ k2 =>
   have H := HA.out
   clear HA
   simp only [impl_Field_compose.l0] at H
   by_cases c13 : x29_2 < (l1.length : Int)
   rotate_left
   ·rw [if_neg c13] at H
    have c13b0 := decide_eq_false c13
    clear c13
    obtain ⟨t269, A30, H⟩ := qBd H
    obtain rfl := Option.some.inj H
    obtain ⟨Ao31, co31, eo31⟩ := Kd.R_slice HO_7.out
    subst eo31
    go_wp2_with (first | ((with_reducible refine gQc (f := 82) rfl ?_); refine goesL_ (some 59) rfl rfl Try.func82 (by kernel_rfl) rfl #[.slice Ao31 x7_2.length co31] rfl tL ?_; (with_reducible refine (impl_trim.calls k2 (fun k_ => some k_ = (.slice Ao31 x7_2.length co31 : Value).ownBlock) (.slice Ao31 x7_2.length co31) x7_2 t269 w _ ?s1 ?s2 A30.out).mono ?_); (case s1 => exact tB); (case s2 => exact Kd.R_tight rfl HO_7.out); rintro e w32 ⟨v270, rfl, ho0, hb, hkp⟩; refine ⟨_, rfl, ?_⟩; refine qM3 (blk_kept (tG BK265.out) hkp (fun hs_ => (fun e_ => (Kd.R_ne HO_7.out BK265.out (by decide)) e_) hs_)) (Kd.R_mono (ok' := fun k_ => True) ho0 (fun k_ hk_ => trivial)) hb ?_; clear BK265 HB HO_7; intro BK265 HO271 HB; (try clear hb); (try clear hkp); (try clear ho0)))
    go_ret
    exact ⟨_, by first | rfl | (simp [errW_none, errW_some] <;> rfl) | (simp only [← hji8]; first | rfl | (simp [errW_none, errW_some] <;> rfl)) | (simp [*, errW_none, errW_some] <;> rfl), tR HO271.out, tB⟩
   rw [if_pos c13] at H
   have c13b0 := decide_eq_true c13
   clear c13
   by_cases c14 : 0 ≤ x29_2
   rotate_left
   ·rw [if_neg c14] at H
    exact absurd H (by simp)
   rw [if_pos c14] at H
   have c14b0 := decide_eq_true c14
   clear c14
   by_cases c15 : x29_2 < (l1.length : Int)
   rotate_left
   ·rw [if_neg c15] at H
    exact absurd H (by simp)
   rw [if_pos c15] at H
   have c15b0 := decide_eq_true c15
   clear c15
   replace H' := Aq.mk H
   clear H
   have p272 : 0 ≤ (x29_2 : Int) := of_decide_eq_true tA
   have q272 : x29_2 < (l1.length : Int) := of_decide_eq_true tA
   obtain ⟨ad272, e272, hx272_0⟩ := Kd.at_int HR1.out x29_2 p272 q272
   cases e272
   replace hx272_0 := (HB.out.cell (World.block_lt_of_cell? w _ hx272_0)).trans hx272_0
   replace p272 := eq_true p272
   replace q272 := eq_true q272
   go_wp2
   go_loopg [36] k2 (fun kq v36 w' => ∃ (x7_3 : List Int) (x36_3 : Int), v36 = .int .i64 x36_3 ∧ Aq (impl_Field_compose.l1 kq l2 x7_3 x29_2 (rd l1 x29_2) l1 (l1.length : Int) x29_2 l2 (l2.length : Int) x36_3 a0_0 a0_1 = some r) ∧ Aq (kq ≤ k2) ∧ Aq (Kd.R (Kd.int .i64) 2 w' w.heap.size (fun _ => True) v267 x7_3) ∧ Aq (w'.heap[gb265]? = some (.cells #[.int .i64 a0_0, .int .i64 a0_1] 27 (0, 0))) ∧ Aq (Below w.heap.size w w'))
   case atStart => exact ⟨(x7_2), (0), tS, H', ⟨Nat.le_refl _⟩, ⟨tR HO_7.out⟩, ⟨tG BK265.out⟩, ⟨tB⟩⟩
   clear H'
   try clear c1
   try clear c2
   try clear c6
   try clear c6b0
   try clear c6b1
   try clear c6b2
   try clear c7
   try clear c9
   try clear c9b0
   try clear c9b1
   try clear c10
   try clear c10b0
   try clear c10b1
   try clear c13
   try clear c13b0
   try clear c14
   try clear c14b0
   try clear c15
   try clear c15b0
   try clear hx272_0
   try clear p272
   try clear q272
   obtain ⟨x7_3, x36_3, rfl, HA, HK3, HO_7, BK265, HB⟩ := hrel
   cases gk with
   | zero => exact absurd HA.out (by simp [impl_Field_compose.l1])
   | succ k3 =>
    have H := HA.out
    clear HA
    simp only [impl_Field_compose.l1] at H
    by_cases c16 : x36_3 < (l2.length : Int)
    rotate_left
    ·rw [if_neg c16] at H
     have c16b0 := decide_eq_false c16
     clear c16
     replace H' := Aq.mk H
     clear H
     go_wp2
     go_roundg k3
     case measure => have := HJ3.out; have := HK2.out; have := HK3.out; omega
     case rel => exact ⟨(x7_3), (wrap64 (x29_2 + 1)), tS, H', ⟨by have := HJ3.out; have := HK2.out; have := HK3.out; omega⟩, ⟨tR HO_7.out⟩, ⟨tG BK265.out⟩, ⟨tB⟩⟩
    rw [if_pos c16] at H
    have c16b0 := decide_eq_true c16
    clear c16
    by_cases c17 : 0 ≤ x36_3
    rotate_left
    ·rw [if_neg c17] at H
     exact absurd H (by simp)
    rw [if_pos c17] at H
    have c17b0 := decide_eq_true c17
    clear c17
    by_cases c18 : x36_3 < (l2.length : Int)
    rotate_left
    ·rw [if_neg c18] at H
     exact absurd H (by simp)
    rw [if_pos c18] at H
    have c18b0 := decide_eq_true c18
    clear c18
    obtain ⟨ji19, hji19⟩ : ∃ j_ : Int, (wrap64 (x29_2 + x36_3)) = j_ := ⟨_, rfl⟩
    first | rw [hji19] at H | simp only [hji19] at H | skip
    have hji19w : (IntKind.i64.wrap (x29_2 + x36_3)) = ji19 := (i64_w _).trans hji19
    by_cases c20 : 0 ≤ (ji19)
    rotate_left
    ·rw [if_neg c20] at H
     exact absurd H (by simp)
    rw [if_pos c20] at H
    have c20b0 := decide_eq_true c20
    clear c20
    by_cases c21 : (ji19) < (x7_3.length : Int)
    rotate_left
    ·rw [if_neg c21] at H
     exact absurd H (by simp)
    rw [if_pos c21] at H
    have c21b0 := decide_eq_true c21
    clear c21
    obtain ⟨t275, A22, H⟩ := qBd H
    obtain ⟨t276, A23, H⟩ := qBd H
    obtain ⟨y277, hy277⟩ : ∃ y_ : List Int, y_ = (x7_3.set ((ji19) : Int).toNat (Go.bits .xor .i64 (rd x7_3 (ji19)) t276)) := ⟨_, rfl⟩
    replace H : (impl_Field_compose.l1 k3 l2 y277 x29_2 (rd l1 x29_2) l1 (l1.length : Int) x29_2 l2 (l2.length : Int) (wrap64 (x36_3 + 1)) a0_0 a0_1) = some r := by first | (rw [hy277]; with_reducible exact H) | (have H2_ := (Option.bind_some _ _).symm.trans H; rw [hy277]; with_reducible exact H2_) | (have H2_ := (Option.bind_some _ _).symm.trans H; with_reducible exact H2_) | with_reducible exact H | (rw [hy277]; exact H) | exact H
    have Ny277 := Aq.mk hy277
    clear hy277
    replace H' := Aq.mk H
    clear H
    have p273 : 0 ≤ (x36_3 : Int) := of_decide_eq_true tA
    have q273 : x36_3 < (l2.length : Int) := of_decide_eq_true tA
    obtain ⟨ad273, e273, hx273_0⟩ := Kd.at_int HR2.out x36_3 p273 q273
    cases e273
    replace hx273_0 := (HB.out.cell (World.block_lt_of_cell? w _ hx273_0)).trans hx273_0
    replace p273 := eq_true p273
    replace q273 := eq_true q273
    try go_wp2
    have n0_ := Aq.mk (Kd.RqD HO_7.out)
    have n1_ := Aq.mk (kQD BK265.out)
    have n2_ := Aq.mk (bQ1 HB.out)
    clear HO_7
    clear BK265
    clear HB
    have HO_7 := n0_
    have BK265 := n1_
    have HB := n2_
    clear n0_ n1_ n2_
    obtain ⟨Ao26, co26, eo26⟩ := Kd.R_slice HO_7.out
    (first | subst eo26 | (injection eo26 with f1_ f2_ f3_; have f4_ := f1_.symm; have f5_ := f3_.symm; clear f1_ f2_ f3_; subst f4_; subst f5_))
    have p274 : 0 ≤ ((ji19) : Int) := of_decide_eq_true tA
    have q274 : (ji19) < (x7_3.length : Int) := of_decide_eq_true tA
    obtain ⟨ad274, e274, hx274_0⟩ := Kd.at_int (Kd.R_reads' HO_7.out).2.2 (ji19) p274 q274
    cases e274
    replace p274 := eq_true p274
    replace q274 := eq_true q274
    refine start_ (n := 16) (S := fun w' => w'.cell? ⟨gb265, 0, none⟩ = some (.int .i64 a0_0) ∧ w'.cell? ⟨gb265, 1, none⟩ = some (.int .i64 a0_1) ∧ w'.cell? (ad274.add ((ji19)).toNat) = some (.int .i64 (rd x7_3 (ji19)))) (ds := [15]) #[false, false, false, false, false, false, false, false, false, false, false, false, false, false, false, false] (by kernel_rfl) rfl rfl ⟨(kQC BK265.out 0).trans rfl, (kQC BK265.out 1).trans rfl, hx274_0⟩ (fun hHeld => ?_); refine with_tabW impl_Field_compose.tab10 impl_Field_compose.bits10 (fun HT_ HW_ => ?_)
    generalize wr.drew = w25 at HO_7 BK265 HB hx274_0 hHeld ⊢
    refine tP0 0 41 (bm 16 1) ?_
    refine tP0 1 42 (bm 16 3) ?_
    refine tP0 2 43 (bm 16 7) ?_
    refine tP0 3 44 (bm 16 15) ?_
    refine tP0 4 45 (bm 16 31) ?_
    refine tP0 7 48 (bm 16 159) ?_
    refine tP0 9 50 (bm 16 671) ?_
    refine tP0 10 51 (bm 16 1695) ?_
    refine tT3 5 46 (bm 16 1727) ?_
    refine tT3 6 47 (bm 16 1791) ?_
    refine tT3 8 49 (bm 16 2047) ?_
    refine one_ (i := 11) (N := some 52) (bm 16 4095) rfl rfl (one_of HT_.out (by kernel_rfl)) (by decide) (fun K hK => ?_)
    refine goes_ Try.func81 (by kernel_rfl) rfl #[.agg #[.int .i64 a0_0, .int .i64 a0_1], .int .i64 (rd l2 x36_3), .int .i64 x29_2] (by rfl) rfl rfl tL ?_
    with_reducible refine (impl_Field_square.calls k3 a0_0 a0_1 (rd l2 x36_3) x29_2 t275 _ A22.out).mono ?_
    rintro e w27 ⟨rfl, hb⟩
    have HS2_ := (hb.cell (World.block_lt_of_cell? _ _ (hHeld.2.2))).trans (hHeld.2.2)
    refine ⟨_, rfl, ?_⟩
    have n0_ := Aq.mk (Kd.R_below (tR HO_7.out) hb)
    have n1_ := Aq.mk (tQ BK265.out hb)
    have n2_ := Aq.mk (bQT tB hb)
    clear HO_7
    clear BK265
    clear HB
    have HO_7 := n0_
    have BK265 := n1_
    have HB := n2_
    clear n0_ n1_ n2_
    (try clear hb)
    (try clear hb2)
    (try clear hk)
    (try clear hi)
    refine hK.out _ _ ⟨(kQC BK265.out 0).trans rfl, (kQC BK265.out 1).trans rfl, HS2_⟩ (fun hHeld => ?_)
    clear hK K
    refine tN 52 ?_
    refine one_ (i := 12) (N := some 53) (bm 16 8191) rfl rfl (one_of HT_.out (by kernel_rfl)) (by decide) (fun K hK => ?_)
    refine goes_ Try.func80 (by kernel_rfl) rfl #[.agg #[.int .i64 a0_0, .int .i64 a0_1], .int .i64 (rd l1 x29_2), .int .i64 t275] (by rfl) rfl rfl tL ?_
    with_reducible refine (impl_Field_mul.calls k3 a0_0 a0_1 (rd l1 x29_2) t275 t276 _ A23.out).mono ?_
    rintro e w28 ⟨rfl, hb⟩
    have HS2_ := (hb.cell (World.block_lt_of_cell? _ _ (hHeld.2.2))).trans (hHeld.2.2)
    refine ⟨_, rfl, ?_⟩
    have n0_ := Aq.mk (Kd.R_below (tR HO_7.out) hb)
    have n1_ := Aq.mk (tQ BK265.out hb)
    have n2_ := Aq.mk (bQT tB hb)
    clear HO_7
    clear BK265
    clear HB
    have HO_7 := n0_
    have BK265 := n1_
    have HB := n2_
    clear n0_ n1_ n2_
    (try clear hb)
    (try clear hb2)
    (try clear hk)
    (try clear hi)
    have p24 : 0 ≤ ((ji19) : Int) := of_decide_eq_true tA
    have q24 : ((ji19) : Int) < ((x7_3.length : Int) : Int) := of_decide_eq_true tA
    obtain ⟨go24, co24, eo24, gb24, gl24, cl24, HG24⟩ := Kd.R_form HO_7.out (by omega)
    (first | cases eo24 | (injection eo24 with ea_ en_ ec_; (first | subst ea_ | (injection ea_ with ea_; subst ea_)); subst ec_; clear en_))
    have GB24 := Aq.mk gb24
    have GG24 := Aq.mk HG24
    clear gb24 gl24 HG24
    (first | simp only [add_plain] at hx274_0 | skip)
    obtain ⟨hx24_0, hf24_0⟩ := Kd.R_celln 0 HO_7.out ((ji19) : Int) p24 q24
    replace p24 := eq_true p24
    replace q24 := eq_true q24
    have HP29 := Kd.R_putn HO_7.out ((ji19) : Int) (Go.bits .xor .i64 (rd x7_3 (ji19)) t276)
    rw [← Ny277.out] at HP29
    have HQ29 := Aq.mk HP29
    clear HP29
    refine hK.out _ _ ⟨(kQC BK265.out 0).trans rfl, (kQC BK265.out 1).trans rfl, HS2_⟩ (fun hHeld => ?_)
    clear hK K
    refine tN 53 ?_
    refine tP0 13 54 (bm 16 16383) ?_
    refine tP0 14 55 (bm 16 32767) ?_
    refine last_ (i := 15) (N := none) #[true, true, true, true, true, true, true, true, true, true, true, true, true, true, true, true] rfl rfl (one_of HT_.out (by kernel_rfl)) (by decide) (fun K hK => ?_)
    refine skip_ (w1 := ?_) (by rfl) rfl ?_ ?_
    rotate_left
    ·go_simp
     rfl
    refine hK.out _ _ ?_
    clear hK K
    refine done_ (done_of HT_.out (by kernel_rfl)) ?_
    try go_wp2
    go_roundg k3
    case measure => have := HJ3.out; have := HK2.out; have := HK3.out; omega
    case rel => exact ⟨(y277), (wrap64 (x36_3 + 1)), tS, H', ⟨by have := HJ3.out; have := HK2.out; have := HK3.out; omega⟩, ⟨tR HQ29.out⟩, ⟨by (with_reducible repeat (first | refine kQN ?_ _ | refine kQD ?_ | refine kQA ?_ _)); refine kQR ?_ (by have h_ := Kd.R_ne HO_7.out BK265.out (by decide); intro e_; exact h_ (by rw [e_]; rfl)) _; (with_reducible repeat (first | refine kQN ?_ _ | refine kQD ?_ | refine kQA ?_ _)); exact BK265.out⟩, ⟨by repeat (first | (with_reducible first | exact HB.out | apply bQA | apply bQN | apply bQ1 | refine bQS ?_ GB24.out | refine bQS ?_ GE265.out) | exact HB.out)⟩⟩
def impl_plus.l0 : Nat → List Int → List Int → Int → Int → Option (List Int)
  | 0, _, _, _, _ => none
  | k + 1, x5, x17, x18, x19 => if x19 < x18 then (if 0 ≤ x19 then (if x19 < (x17.length : Int) then (if x19 < (x5.length : Int) then (impl_plus.l0 k (x5.set (x19 : Int).toNat (Go.bits .xor .i64 (rd x5 x19) (rd x17 x19))) x17 x18 (wrap64 (x19 + 1))) else (none)) else (none)) else (none)) else ((impl_trim.f k x5).bind fun t285 => (some t285))
def impl_plus.f (k : Nat) (l0 : List Int) (l1 : List Int) : Option (List Int) := if 0 ≤ (mx (l0.length : Int) (l1.length : Int)) then (if (mx (l0.length : Int) (l1.length : Int) : Int).toNat ≤ 35184372088832 then ((some (List.replicate (mx (l0.length : Int) (l1.length : Int) : Int).toNat 0 : List Int)).bind fun y278 => (if (l0.length : Int) ≤ (y278.length : Int) then (impl_plus.l0 k (l0 ++ y278.drop l0.length) l1 (l1.length : Int) 0) else (none))) else (none)) else (none)
theorem impl_plus.mono_l : ∀ k, (∀ y0 y1 y2 y3, LeO (impl_plus.l0 k y0 y1 y2 y3) (impl_plus.l0 (k + 1) y0 y1 y2 y3))
 | 0 => fun _ _ _ _ r h => by simp [impl_plus.l0] at h
 | k + 1 => by
  have ih0 := impl_plus.mono_l k
  ·intro y0 y1 y2 y3
   unfold impl_plus.l0
   repeat' first
   | (with_reducible first | apply ih0 | apply impl_trim.mono | exact LeO.refl _ | exact LeO.none _ | refine LeO.ite ?_ ?_ | refine LeO.bind ?_ (fun _ => ?_))
   | exact LeO.none _
   | refine LeO.ite ?_ ?_
   | refine LeO.bind ?_ (fun _ => ?_)
theorem impl_plus.mono : ∀ a0 a1 k, LeO (impl_plus.f k a0 a1) (impl_plus.f (k + 1) a0 a1) := by
 intro a0 a1 k
 have ih0 := impl_plus.mono_l k
 unfold impl_plus.f
 repeat' first
  | (with_reducible first | apply ih0 | apply impl_trim.mono | exact LeO.refl _ | exact LeO.none _ | refine LeO.ite ?_ ?_ | refine LeO.bind ?_ (fun _ => ?_))
  | exact LeO.none _
  | refine LeO.ite ?_ ?_
  | refine LeO.bind ?_ (fun _ => ?_)
theorem impl_plus.calls (k : Nat) (A0 : Option Addr) (c0 : Nat) (l0 : List Int) (A1 : Option Addr) (c1 : Nat) (l1 : List Int) (r : List Int) (w : World) (hr0 : Kd.C (Kd.int .i64) w A0 l0.length l0) (hc0 : l0.length ≤ c0) (hr1 : Kd.C (Kd.int .i64) w A1 l1.length l1) (hc1 : l1.length ≤ c1) (h : impl_plus.f k l0 l1 = some r) :
 Calls Try.prog 43 #[.slice A0 l0.length c0, .slice A1 l1.length c1] w fun e w' => ∃ v0_ : Value, e = .returned (v0_) ∧ Kd.R (Kd.int .i64) 2 w' w.heap.size (fun _ => True) v0_ r ∧ Below w.heap.size w w' := by
 have HR0 := Aq.mk hr0
 have HC0 := Aq.mk hc0
 clear hr0 hc0
 have HR1 := Aq.mk hr1
 have HC1 := Aq.mk hc1
 clear hr1 hc1
 have HB := Aq.mk (Below.refl w.heap.size w)
 have H : (if 0 ≤ (mx (l0.length : Int) (l1.length : Int)) then (if (mx (l0.length : Int) (l1.length : Int) : Int).toNat ≤ 35184372088832 then ((some (List.replicate (mx (l0.length : Int) (l1.length : Int) : Int).toNat 0 : List Int)).bind fun y278 => (if (l0.length : Int) ≤ (y278.length : Int) then (impl_plus.l0 k (l0 ++ y278.drop l0.length) l1 (l1.length : Int) 0) else (none))) else (none)) else (none)) = some r := h
 clear h
 obtain ⟨ji3, hji3⟩ : ∃ j_ : Int, (mx (l0.length : Int) (l1.length : Int)) = j_ := ⟨_, rfl⟩
 first | rw [hji3] at H | simp only [hji3] at H | skip
 (try (have hji3l : 0 ≤ ji3 := by (rw [← hji3]; unfold mx; (repeat' split) <;> omega)))
 (try (have hji3m : 0 ≤ ji3 := by omega))
 have hji3_ : (if (l0.length : Int) < (l1.length : Int) then (l1.length : Int) else (l0.length : Int)) = ji3 := hji3
 have hji3n : (if l0.length < l1.length then (l1.length : Int) else (l0.length : Int)) = ji3 := by simpa only [Int.ofNat_lt] using hji3_
 by_cases c4 : 0 ≤ (ji3)
 rotate_left
 ·rw [if_neg c4] at H
  exact absurd H (by simp)
 rw [if_pos c4] at H
 have c4b0 := eq_true c4
 have c4b1 := decide_eq_true c4
 clear c4
 by_cases c5 : (ji3 : Int).toNat ≤ 35184372088832
 rotate_left
 ·rw [if_neg c5] at H
  exact absurd H (by simp)
 rw [if_pos c5] at H
 have c5b0 := eq_true c5
 have c5b1 := decide_eq_true c5
 clear c5
 obtain ⟨y278, hy278⟩ : ∃ y_ : List Int, y_ = (List.replicate (ji3 : Int).toNat 0) := ⟨_, rfl⟩
 replace H : (if (l0.length : Int) ≤ (y278.length : Int) then (impl_plus.l0 k (l0 ++ y278.drop l0.length) l1 (l1.length : Int) 0) else (none)) = some r := by first | (rw [hy278]; with_reducible exact H) | (have H2_ := (Option.bind_some _ _).symm.trans H; rw [hy278]; with_reducible exact H2_) | (have H2_ := (Option.bind_some _ _).symm.trans H; with_reducible exact H2_) | with_reducible exact H | (rw [hy278]; exact H) | exact H
 have Ny278 := Aq.mk hy278
 clear hy278
 by_cases c6 : (l0.length : Int) ≤ (y278.length : Int)
 rotate_left
 ·rw [if_neg c6] at H
  exact absurd H (by simp)
 rw [if_pos c6] at H
 have c6b0 := eq_true c6
 have c6b1 := decide_eq_true c6
 clear c6
 obtain ⟨y281, hy281⟩ : ∃ y_ : List Int, y_ = (l0 ++ y278.drop l0.length) := ⟨_, rfl⟩
 replace H : (impl_plus.l0 k y281 l1 (l1.length : Int) 0) = some r := by first | (rw [hy281]; with_reducible exact H) | (have H2_ := (Option.bind_some _ _).symm.trans H; rw [hy281]; with_reducible exact H2_) | (have H2_ := (Option.bind_some _ _).symm.trans H; with_reducible exact H2_) | with_reducible exact H | (rw [hy281]; exact H) | exact H
 have Ny281 := Aq.mk hy281
 clear hy281
 replace H' := Aq.mk H
 clear H
 go_enter Try.func43, Try.ntmps43
 go_wp2_with (first | ((with_reducible refine gQd (N := 13) rfl ?_); refine Kd.R_make (Kd.int .i64) _ 2 rfl (N := 13) rfl 24 _ _ rfl ji3 rfl rfl Try.underlying24 (.int .i64 0) 8 info2 rfl (by decide) (by omega) 0 (ok := fun _ => True) (okp := fun _ => True) rfl (fun _ hk => hk) trivial (of_decide_eq_true tA) (Nat.le_trans (Nat.mul_le_mul_right _ (of_decide_eq_true tA : ji3.toNat ≤ 35184372088832)) (by omega)) (Below.refl _ _) (Nat.le_refl _) ?_; intro v279 w7 ho8 hb hg_ hnew_; clear hg_ hnew_; (first | rw [← Ny278.out] at ho8 | (simp only [Int.reduceToNat] at ho8; rw [← Ny278.out] at ho8)); refine qM2 (Kd.R_lower ho8 (bQZ tB)) (bQT tB hb) ?_; clear HB; intro HO280 HB; clear hb ho8) | ((with_reducible refine gate_copy rfl ?_); have hh_ : (l0.length : Int) ≤ (y278.length : Int) := of_decide_eq_true tA; refine R_copy rfl (.tmp 14) (.tmp 15) 24 24 rfl Try.underlying24 (by kernel_rfl) (ik := .i64) rfl rfl (tR HO280.out) (by exact tC ((Kd.C_below HR0.out HB.out))) (by omega) tB (Nat.le_refl _) ?_; intro w9 ho hb; clear hh_; rw [← Ny281.out] at ho; refine qM2 ho hb ?_; clear HO280 HB; intro HO280 HB; clear ho hb))
 go_loopg [19] k (fun kq v19 w' => ∃ (x5_1 : List Int) (x19_1 : Int), v19 = .int .i64 x19_1 ∧ Aq (impl_plus.l0 kq x5_1 l1 (l1.length : Int) x19_1 = some r) ∧ Aq (kq ≤ k) ∧ Aq (Kd.R (Kd.int .i64) 2 w' w.heap.size (fun _ => True) v279 x5_1) ∧ Aq (Below w.heap.size w w'))
 case atStart => exact ⟨(y281), (0), tS, H', ⟨Nat.le_refl _⟩, ⟨tR HO280.out⟩, ⟨tB⟩⟩
 clear H'
 try clear c1
 try clear c4
 try clear c4b0
 try clear c4b1
 try clear c5
 try clear c5b0
 try clear c5b1
 try clear c6
 try clear c6b0
 try clear c6b1
 obtain ⟨x5_1, x19_1, rfl, HA, HK1, HO_5, HB⟩ := hrel
 cases gk with
 | zero => exact absurd HA.out (by simp [impl_plus.l0])
 | succ k1 =>
  have H := HA.out
  clear HA
  simp only [impl_plus.l0] at H
  by_cases c10 : x19_1 < (l1.length : Int)
  rotate_left
  ·rw [if_neg c10] at H
   have c10b0 := decide_eq_false c10
   clear c10
   obtain ⟨t285, A18, H⟩ := qBd H
   obtain rfl := Option.some.inj H
   obtain ⟨Ao19, co19, eo19⟩ := Kd.R_slice HO_5.out
   subst eo19
   go_wp2_with (first | ((with_reducible refine gQc (f := 82) rfl ?_); refine goesL_ (some 33) rfl rfl Try.func82 (by kernel_rfl) rfl #[.slice Ao19 x5_1.length co19] rfl tL ?_; (with_reducible refine (impl_trim.calls k1 (fun k_ => some k_ = (.slice Ao19 x5_1.length co19 : Value).ownBlock) (.slice Ao19 x5_1.length co19) x5_1 t285 w _ ?s1 ?s2 A18.out).mono ?_); (case s1 => exact tB); (case s2 => exact Kd.R_tight rfl HO_5.out); rintro e w20 ⟨v286, rfl, ho0, hb, hkp⟩; refine ⟨_, rfl, ?_⟩; refine qM2 (Kd.R_mono (ok' := fun k_ => True) ho0 (fun k_ hk_ => trivial)) hb ?_; clear HB HO_5; intro HO287 HB; (try clear hb); (try clear hkp); (try clear ho0)))
   go_ret
   exact ⟨_, by first | rfl | (simp [errW_none, errW_some] <;> rfl) | (simp only [← hji3]; first | rfl | (simp [errW_none, errW_some] <;> rfl)) | (simp [*, errW_none, errW_some] <;> rfl), tR HO287.out, tB⟩
  rw [if_pos c10] at H
  have c10b0 := decide_eq_true c10
  clear c10
  by_cases c11 : 0 ≤ x19_1
  rotate_left
  ·rw [if_neg c11] at H
   exact absurd H (by simp)
  rw [if_pos c11] at H
  have c11b0 := decide_eq_true c11
  clear c11
  by_cases c12 : x19_1 < (l1.length : Int)
  rotate_left
  ·rw [if_neg c12] at H
   exact absurd H (by simp)
  rw [if_pos c12] at H
  have c12b0 := decide_eq_true c12
  clear c12
  by_cases c13 : x19_1 < (x5_1.length : Int)
  rotate_left
  ·rw [if_neg c13] at H
   exact absurd H (by simp)
  rw [if_pos c13] at H
  have c13b0 := decide_eq_true c13
  clear c13
  obtain ⟨y284, hy284⟩ : ∃ y_ : List Int, y_ = (x5_1.set (x19_1 : Int).toNat (Go.bits .xor .i64 (rd x5_1 x19_1) (rd l1 x19_1))) := ⟨_, rfl⟩
  replace H : (impl_plus.l0 k1 y284 l1 (l1.length : Int) (wrap64 (x19_1 + 1))) = some r := by first | (rw [hy284]; with_reducible exact H) | (have H2_ := (Option.bind_some _ _).symm.trans H; rw [hy284]; with_reducible exact H2_) | (have H2_ := (Option.bind_some _ _).symm.trans H; with_reducible exact H2_) | with_reducible exact H | (rw [hy284]; exact H) | exact H
  have Ny284 := Aq.mk hy284
  clear hy284
  replace H' := Aq.mk H
  clear H
  have p282 : 0 ≤ (x19_1 : Int) := of_decide_eq_true tA
  have q282 : x19_1 < (l1.length : Int) := of_decide_eq_true tA
  obtain ⟨ad282, e282, hx282_0⟩ := Kd.at_int HR1.out x19_1 p282 q282
  cases e282
  replace hx282_0 := (HB.out.cell (World.block_lt_of_cell? w _ hx282_0)).trans hx282_0
  replace p282 := eq_true p282
  replace q282 := eq_true q282
  obtain ⟨Ao15, co15, eo15⟩ := Kd.R_slice HO_5.out
  subst eo15
  have p283 : 0 ≤ (x19_1 : Int) := of_decide_eq_true tA
  have q283 : x19_1 < (x5_1.length : Int) := of_decide_eq_true tA
  obtain ⟨ad283, e283, hx283_0⟩ := Kd.at_int (Kd.R_reads' HO_5.out).2.2 x19_1 p283 q283
  cases e283
  replace p283 := eq_true p283
  replace q283 := eq_true q283
  have p14 : 0 ≤ (x19_1 : Int) := of_decide_eq_true tA
  have q14 : (x19_1 : Int) < ((x5_1.length : Int) : Int) := of_decide_eq_true tA
  obtain ⟨go14, co14, eo14, gb14, gl14, cl14, HG14⟩ := Kd.R_form HO_5.out (by omega)
  (first | cases eo14 | (injection eo14 with ea_ en_ ec_; (first | subst ea_ | (injection ea_ with ea_; subst ea_)); subst ec_; clear en_))
  have GB14 := Aq.mk gb14
  have GG14 := Aq.mk HG14
  clear gb14 gl14 HG14
  (first | simp only [add_plain] at hx283_0 | skip)
  obtain ⟨hx14_0, hf14_0⟩ := Kd.R_celln 0 HO_5.out (x19_1 : Int) p14 q14
  replace p14 := eq_true p14
  replace q14 := eq_true q14
  have HP16 := Kd.R_putg HO_5.out (x19_1 : Int) (Go.bits .xor .i64 (rd x5_1 x19_1) (rd l1 x19_1))
  go_wp2_with (first | ((with_reducible refine gate_store (t := 2) (p := 30) rfl ?_); refine store_event (t := 2) (p := 30) (v := ?vo_w17) (w1 := (wr.setCell ⟨go14, (x19_1 : Int).toNat, none⟩ (.int .i64 (Go.bits .xor .i64 (rd x5_1 x19_1) (rd l1 x19_1))))) ?hg ?ho ?hn ?hr ?_; (case ho => rfl); (case hg => rfl); (case hn => rfl); (case hr => exact tH); intro w17 hw; have hg : wr.grownBy w17 (some go14) := (by rw [hw]; exact HP16.2); have hp_ : Kd.R (Kd.int .i64) 2 w17 w.heap.size (fun _ => True) (.slice (some ⟨go14, 0, none⟩) x5_1.length co15) y284 := (by rw [hw, Ny284.out]; exact HP16.1); clear HP16; refine qM2 hp_ ((by rw [hw]; exact bQS (HB.out) GB14.out : Below w.heap.size w w17)) ?_; clear HO_5 HB; intro HO_5 HB; clear hg hw hp_))
  go_roundg k1
  case measure => have := HK1.out; omega
  case rel => exact ⟨(y284), (wrap64 (x19_1 + 1)), tS, H', ⟨by have := HK1.out; omega⟩, ⟨tR HO_5.out⟩, ⟨tB⟩⟩
end Go.Proofs.Ytkhjoomjjdgkjaa.P
