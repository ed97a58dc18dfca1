/- Functions of the program and what they tell, as the printing program wrote it. -/
import Derived.Test.YtkhjoomjjdgkjaaPx0
import Derived.Test.YtkhjoomjjdgkjaaPx4
import Derived.Test.YtkhjoomjjdgkjaaPx28
import Derived.Test.YtkhjoomjjdgkjaaPx30
import Derived.Test.YtkhjoomjjdgkjaaPx32
namespace Go.Proofs.Ytkhjoomjjdgkjaa.P
open Go.Shelf Go.RowKit Go.Proofs.YtkhjoomjjdgkjaaW.PrintWords Go.Proofs.YtkhjoomjjdgkjaaW.PrintLast Go.Proofs.YtkhjoomjjdgkjaaW.PrintMore
attribute [local go_sem] max2_int min2_int max_two min_two max_three min_three max_four min_four
set_option linter.unusedVariables false
set_option linter.unusedSimpArgs false
set_option maxHeartbeats 8000000
set_option maxRecDepth 100000
def impl_Field_values.l0 : Nat → List Int → List Int → List Int → Int → Int → Int → Int → Option (List Int)
  | 0, _, _, _, _, _, _, _ => none
  | k + 1, x1, x7, x11, x12, x13, x928000, x928001 => if x13 < x12 then (if 0 ≤ x13 then (if x13 < (x11.length : Int) then ((impl_Field_value.f k x928000 x928001 x1 (rd x11 x13)).bind fun t932 => (if x7.length < 17592186044416 then (impl_Field_values.l0 k x1 (x7 ++ [t932]) x11 x12 (wrap64 (x13 + 1)) x928000 x928001) else (none))) else (none)) else (none)) else (some x7)
def impl_Field_values.f (k : Nat) (a0_0 : Int) (a0_1 : Int) (l1 : List Int) (l2 : List Int) : Option (List Int) := impl_Field_values.l0 k l1 (([] : List Int)) l2 (l2.length : Int) 0 a0_0 a0_1
theorem impl_Field_values.mono_l : ∀ k, (∀ y0 y1 y2 y3 y4 y5 y6, LeO (impl_Field_values.l0 k y0 y1 y2 y3 y4 y5 y6) (impl_Field_values.l0 (k + 1) y0 y1 y2 y3 y4 y5 y6))
 | 0 => fun _ _ _ _ _ _ _ r h => by simp [impl_Field_values.l0] at h
 | k + 1 => by
  have ih0 := impl_Field_values.mono_l k
  ·intro y0 y1 y2 y3 y4 y5 y6
   unfold impl_Field_values.l0
   repeat' first
   | (with_reducible first | apply ih0 | apply impl_Field_value.mono | exact LeO.refl _ | exact LeO.none _ | refine LeO.ite ?_ ?_ | refine LeO.bind ?_ (fun _ => ?_))
   | exact LeO.none _
   | refine LeO.ite ?_ ?_
   | refine LeO.bind ?_ (fun _ => ?_)
theorem impl_Field_values.mono : ∀ a0 a1 a2 a3 k, LeO (impl_Field_values.f k a0 a1 a2 a3) (impl_Field_values.f (k + 1) a0 a1 a2 a3) := by
 intro a0 a1 a2 a3 k
 have ih0 := impl_Field_values.mono_l k
 unfold impl_Field_values.f
 repeat' first
  | (with_reducible first | apply ih0 | apply impl_Field_value.mono | exact LeO.refl _ | exact LeO.none _ | refine LeO.ite ?_ ?_ | refine LeO.bind ?_ (fun _ => ?_))
  | exact LeO.none _
  | refine LeO.ite ?_ ?_
  | refine LeO.bind ?_ (fun _ => ?_)
theorem impl_Field_values.calls (k : Nat) (a0_0 : Int) (a0_1 : Int) (A1 : Option Addr) (c1 : Nat) (l1 : List Int) (A2 : Option Addr) (c2 : Nat) (l2 : List Int) (r : List Int) (w : World) (hr1 : Kd.C (Kd.int .i64) w A1 l1.length l1) (hc1 : l1.length ≤ c1) (hr2 : Kd.C (Kd.int .i64) w A2 l2.length l2) (hc2 : l2.length ≤ c2) (h : impl_Field_values.f k a0_0 a0_1 l1 l2 = some r) :
 Calls Try.prog 58 #[.agg #[.int .i64 a0_0, .int .i64 a0_1], .slice A1 l1.length c1, .slice A2 l2.length c2] w fun e w' => ∃ v0_ : Value, e = .returned (v0_) ∧ Kd.R (Kd.int .i64) 2 w' w.heap.size (fun _ => True) v0_ r ∧ Below w.heap.size w w' := by
 have hu27 := Try.underlying27
 have HR1 := Aq.mk hr1
 have HC1 := Aq.mk hc1
 clear hr1 hc1
 have HR2 := Aq.mk hr2
 have HC2 := Aq.mk hc2
 clear hr2 hc2
 have HB := Aq.mk (Below.refl w.heap.size w)
 have H : (impl_Field_values.l0 k l1 (([] : List Int)) l2 (l2.length : Int) 0 a0_0 a0_1) = some r := h
 clear h
 obtain ⟨y928, hy928⟩ : ∃ y_ : List Int, y_ = (([] : List Int)) := ⟨_, rfl⟩
 replace H : (impl_Field_values.l0 k l1 y928 l2 (l2.length : Int) 0 a0_0 a0_1) = some r := by first | (rw [hy928]; with_reducible exact H) | (have H2_ := (Option.bind_some _ _).symm.trans H; rw [hy928]; with_reducible exact H2_) | (have H2_ := (Option.bind_some _ _).symm.trans H; with_reducible exact H2_) | with_reducible exact H | (rw [hy928]; exact H) | exact H
 have Ny928 := Aq.mk hy928
 clear hy928
 replace H' := Aq.mk H
 clear H
 go_enter Try.func58, Try.ntmps58
 go_wp2_with (first | ((with_reducible refine gQd (N := 3) rfl ?_); refine xQe ?hg (N := 3) ?hd (cs := #[.int .i64 a0_0, .int .i64 a0_1]) (t := 27) ?hr ?_; (case hd => rfl); (case hg => rfl); (case hr => exact tH); intro gb927 hg w4 hbox hb; refine qM4 (bQT tB hb) hbox (tZ w hg) (tZ w hg) ?_; clear HB; intro HB BK927 GW927 GE927; clear hb hbox hg) | ((with_reducible refine gQd (N := 10) rfl ?_); refine Kd.R_lit (Kd.int .i64) _ 2 ?hg (N := 10) ?hd (xs := ([] : List Int)) (inner := []) (ok := fun _ => True) (okp := fun _ => True) ?hr ?hp (fun _ hk => hk) trivial (Below.refl _ _) (Nat.le_refl _) (by simp) ?_; (case hd => rfl); (case hg => rfl); (case hr => exact tH); (case hp => exact (Reps.none _ _)); intro v929 w5 ho6 hb hg_ hnew_; clear hg_ hnew_; (first | rw [← Ny928.out] at ho6 | (simp only [Int.reduceToNat] at ho6; rw [← Ny928.out] at ho6)); refine qM3 (Kd.R_lower ho6 (bQZ tB)) (tQ BK927.out hb) (bQT tB hb) ?_; clear BK927 HB; intro HO930 BK927 HB; clear hb ho6))
 go_loopg [7, 13] k (fun kq v7 v13 w' => ∃ (x7_1 : List Int) (x13_1 : Int), v13 = .int .i64 x13_1 ∧ Aq (impl_Field_values.l0 kq l1 x7_1 l2 (l2.length : Int) x13_1 a0_0 a0_1 = some r) ∧ Aq (kq ≤ k) ∧ Aq (Kd.R (Kd.int .i64) 2 w' w.heap.size (fun _ => True) v7 x7_1) ∧ Aq (w'.heap[gb927]? = some (.cells #[.int .i64 a0_0, .int .i64 a0_1] 27 (0, 0))) ∧ Aq (Below w.heap.size w w'))
 case atStart => exact ⟨(y928), (0), tS, H', ⟨Nat.le_refl _⟩, ⟨tR HO930.out⟩, ⟨tG BK927.out⟩, ⟨tB⟩⟩
 clear H'
 try clear c1
 try clear c2
 obtain ⟨x7_1, x13_1, rfl, HA, HK1, HO_7, BK927, HB⟩ := hrel
 cases gk with
 | zero => exact absurd HA.out (by simp [impl_Field_values.l0])
 | succ k1 =>
  have H := HA.out
  clear HA
  simp only [impl_Field_values.l0] at H
  by_cases c7 : x13_1 < (l2.length : Int)
  rotate_left
  ·rw [if_neg c7] at H
   have c7b0 := decide_eq_false c7
   clear c7
   obtain rfl := Option.some.inj H
   go_wp2
   go_ret
   exact ⟨_, tE, tR HO_7.out, tB⟩
  rw [if_pos c7] at H
  have c7b0 := decide_eq_true c7
  clear c7
  by_cases c8 : 0 ≤ x13_1
  rotate_left
  ·rw [if_neg c8] at H
   exact absurd H (by simp)
  rw [if_pos c8] at H
  have c8b0 := decide_eq_true c8
  clear c8
  by_cases c9 : x13_1 < (l2.length : Int)
  rotate_left
  ·rw [if_neg c9] at H
   exact absurd H (by simp)
  rw [if_pos c9] at H
  have c9b0 := decide_eq_true c9
  clear c9
  obtain ⟨t932, A10, H⟩ := qBd H
  by_cases c11 : x7_1.length < 17592186044416
  rotate_left
  ·rw [if_neg c11] at H
   exact absurd H (by simp)
  rw [if_pos c11] at H
  have LMc11 := Aq.mk c11
  clear c11
  obtain ⟨y933, hy933⟩ : ∃ y_ : List Int, y_ = (x7_1 ++ [t932]) := ⟨_, rfl⟩
  replace H : (impl_Field_values.l0 k1 l1 y933 l2 (l2.length : Int) (wrap64 (x13_1 + 1)) a0_0 a0_1) = some r := by first | (rw [hy933]; with_reducible exact H) | (have H2_ := (Option.bind_some _ _).symm.trans H; rw [hy933]; with_reducible exact H2_) | (have H2_ := (Option.bind_some _ _).symm.trans H; with_reducible exact H2_) | with_reducible exact H | (rw [hy933]; exact H) | exact H
  have Ny933 := Aq.mk hy933
  clear hy933
  replace H' := Aq.mk H
  clear H
  have p931 : 0 ≤ (x13_1 : Int) := of_decide_eq_true tA
  have q931 : x13_1 < (l2.length : Int) := of_decide_eq_true tA
  obtain ⟨ad931, e931, hx931_0⟩ := Kd.at_int HR2.out x13_1 p931 q931
  cases e931
  replace hx931_0 := (HB.out.cell (World.block_lt_of_cell? w _ hx931_0)).trans hx931_0
  replace p931 := eq_true p931
  replace q931 := eq_true q931
  have hcz12_0 : wr.cell? ⟨gb927, 0, none⟩ = some (.int .i64 a0_0) := (kQC BK927.out 0).trans rfl
  have hcz12_1 : wr.cell? ⟨gb927, 1, none⟩ = some (.int .i64 a0_1) := (kQC BK927.out 1).trans rfl
  have hfz12_0 := kQF BK927.out 0
  have hfz12_1 := kQF BK927.out 1
  go_wp2_with (first | ((with_reducible refine gQc (f := 51) rfl ?_); refine goesL_ (some 21) rfl rfl Try.func51 (by kernel_rfl) rfl #[.agg #[.int .i64 a0_0, .int .i64 a0_1], .slice A1 l1.length c1, .int .i64 (rd l2 x13_1)] rfl tL ?_; (with_reducible refine (impl_Field_value.calls k1 a0_0 a0_1 _ _ l1 (rd l2 x13_1) t932 _ ?s1 ?s2 A10.out).mono ?_); (case s1 => exact tC ((Kd.C_below HR1.out HB.out))); (case s2 => exact HC1.out); rintro e w13 ⟨rfl, hb⟩; refine ⟨_, rfl, ?_⟩; refine qM3 (Kd.R_below (tR HO_7.out) hb) (tQ BK927.out hb) (bQT tB hb) ?_; clear HO_7 BK927 HB; intro HO_7 BK927 HB; (try clear hb); (try clear hb2); (try clear hk); (try clear hi)) | ((with_reducible refine gate_builtin (b := .append) (xs := #[.tmp 17, .tmp 22]) rfl ?_); at_builtin; refine Kd.R_append (Kd.int .i64) (w0 := w) w.heap.size rfl (.tmp 17) (.tmp 22) 24 2 (.int .i64 0) 8 rfl Try.underlying24 info2 rfl (by decide) (by omega) u7 x7_1 t932 [.int .i64 t932] (fun _ => True) (fun _ => False) rfl rfl ?aP (fun _ hk => hk.elim) ?aF ?aO ?aB ?aS ?aL ?_; (case aP => exact rfl); (case aB => exact tB); (case aF => exact (fun _ _ => trivial)); (case aO => exact (tR HO_7.out)); (case aS => exact (bQZ tB)); (case aL => have := LMc11.out; omega); intro v934 w14 ho hb hg hat; rw [← Ny933.out] at ho; refine qM3 (blk_grown (g := gb927) (o := .cells #[.int .i64 a0_0, .int .i64 a0_1] 27 (0, 0)) (tG BK927.out) hg (Kd.R_ne HO_7.out BK927.out (by decide))) hb ho ?_; clear BK927 HB HO_7; intro BK927 HB HO935; clear ho hb hg hat))
  go_roundg k1
  case measure => have := HK1.out; omega
  case rel => exact ⟨(y933), (wrap64 (x13_1 + 1)), tS, H', ⟨by have := HK1.out; omega⟩, ⟨tR HO935.out⟩, ⟨tG BK927.out⟩, ⟨tB⟩⟩
def impl_Field_units.l0 : Nat → List Int → Int → Int → Option (List Int)
  | 0, _, _, _ => none
  | k + 1, x3, x7, x8 => if x8 < x7 then (if 0 ≤ x8 then (if x3.length < 17592186044416 then (impl_Field_units.l0 k (x3 ++ [shl .i64 1 x8]) x7 (wrap64 (x8 + 1))) else (none)) else (none)) else (some x3)
def impl_Field_units.f (k : Nat) (a0_0 : Int) (a0_1 : Int) : Option (List Int) := impl_Field_units.l0 k (([] : List Int)) a0_0 0
theorem impl_Field_units.mono_l : ∀ k, (∀ y0 y1 y2, LeO (impl_Field_units.l0 k y0 y1 y2) (impl_Field_units.l0 (k + 1) y0 y1 y2))
 | 0 => fun _ _ _ r h => by simp [impl_Field_units.l0] at h
 | k + 1 => by
  have ih0 := impl_Field_units.mono_l k
  ·intro y0 y1 y2
   unfold impl_Field_units.l0
   repeat' first
   | (with_reducible first | apply ih0 | exact LeO.refl _ | exact LeO.none _ | refine LeO.ite ?_ ?_ | refine LeO.bind ?_ (fun _ => ?_))
   | exact LeO.none _
   | refine LeO.ite ?_ ?_
   | refine LeO.bind ?_ (fun _ => ?_)
theorem impl_Field_units.mono : ∀ a0 a1 k, LeO (impl_Field_units.f k a0 a1) (impl_Field_units.f (k + 1) a0 a1) := by
 intro a0 a1 k
 have ih0 := impl_Field_units.mono_l k
 unfold impl_Field_units.f
 repeat' first
  | (with_reducible first | apply ih0 | exact LeO.refl _ | exact LeO.none _ | refine LeO.ite ?_ ?_ | refine LeO.bind ?_ (fun _ => ?_))
  | exact LeO.none _
  | refine LeO.ite ?_ ?_
  | refine LeO.bind ?_ (fun _ => ?_)
theorem impl_Field_units.calls (k : Nat) (a0_0 : Int) (a0_1 : Int) (r : List Int) (w : World) (h : impl_Field_units.f k a0_0 a0_1 = some r) :
 Calls Try.prog 59 #[.agg #[.int .i64 a0_0, .int .i64 a0_1]] w fun e w' => ∃ v0_ : Value, e = .returned (v0_) ∧ Kd.R (Kd.int .i64) 2 w' w.heap.size (fun _ => True) v0_ r ∧ Below w.heap.size w w' := by
 have hu27 := Try.underlying27
 have HB := Aq.mk (Below.refl w.heap.size w)
 have H : (impl_Field_units.l0 k (([] : List Int)) a0_0 0) = some r := h
 clear h
 obtain ⟨y937, hy937⟩ : ∃ y_ : List Int, y_ = (([] : List Int)) := ⟨_, rfl⟩
 replace H : (impl_Field_units.l0 k y937 a0_0 0) = some r := by first | (rw [hy937]; with_reducible exact H) | (have H2_ := (Option.bind_some _ _).symm.trans H; rw [hy937]; with_reducible exact H2_) | (have H2_ := (Option.bind_some _ _).symm.trans H; with_reducible exact H2_) | with_reducible exact H | (rw [hy937]; exact H) | exact H
 have Ny937 := Aq.mk hy937
 clear hy937
 replace H' := Aq.mk H
 clear H
 go_enter Try.func59, Try.ntmps59
 go_wp2_with (first | ((with_reducible refine gQd (N := 1) rfl ?_); refine xQe ?hg (N := 1) ?hd (cs := #[.int .i64 a0_0, .int .i64 a0_1]) (t := 27) ?hr ?_; (case hd => rfl); (case hg => rfl); (case hr => exact tH); intro gb936 hg w2 hbox hb; refine qM4 (bQT tB hb) hbox (tZ w hg) (tZ w hg) ?_; clear HB; intro HB BK936 GW936 GE936; clear hb hbox hg) | ((with_reducible refine gQd (N := 5) rfl ?_); refine Kd.R_lit (Kd.int .i64) _ 2 ?hg (N := 5) ?hd (xs := ([] : List Int)) (inner := []) (ok := fun _ => True) (okp := fun _ => True) ?hr ?hp (fun _ hk => hk) trivial (Below.refl _ _) (Nat.le_refl _) (by simp) ?_; (case hd => rfl); (case hg => rfl); (case hr => exact tH); (case hp => exact (Reps.none _ _)); intro v938 w3 ho4 hb hg_ hnew_; clear hg_ hnew_; (first | rw [← Ny937.out] at ho4 | (simp only [Int.reduceToNat] at ho4; rw [← Ny937.out] at ho4)); refine qM3 (Kd.R_lower ho4 (bQZ tB)) (tQ BK936.out hb) (bQT tB hb) ?_; clear BK936 HB; intro HO939 BK936 HB; clear hb ho4; have hcz5_0 : w3.cell? ⟨gb936, 0, none⟩ = some (.int .i64 a0_0) := (kQC BK936.out 0).trans rfl; have hcz5_1 : w3.cell? ⟨gb936, 1, none⟩ = some (.int .i64 a0_1) := (kQC BK936.out 1).trans rfl; have hfz5_0 := kQF BK936.out 0; have hfz5_1 := kQF BK936.out 1))
 go_loopg [3, 8] k (fun kq v3 v8 w' => ∃ (x3_1 : List Int) (x8_1 : Int), v8 = .int .i64 x8_1 ∧ Aq (impl_Field_units.l0 kq x3_1 a0_0 x8_1 = some r) ∧ Aq (kq ≤ k) ∧ Aq (Kd.R (Kd.int .i64) 2 w' w.heap.size (fun _ => True) v3 x3_1) ∧ Aq (w'.heap[gb936]? = some (.cells #[.int .i64 a0_0, .int .i64 a0_1] 27 (0, 0))) ∧ Aq (Below w.heap.size w w'))
 case atStart => exact ⟨(y937), (0), tS, H', ⟨Nat.le_refl _⟩, ⟨tR HO939.out⟩, ⟨tG BK936.out⟩, ⟨tB⟩⟩
 clear H'
 try clear hcz5_0
 try clear hcz5_1
 try clear hfz5_0
 try clear hfz5_1
 obtain ⟨x3_1, x8_1, rfl, HA, HK1, HO_3, BK936, HB⟩ := hrel
 cases gk with
 | zero => exact absurd HA.out (by simp [impl_Field_units.l0])
 | succ k1 =>
  have H := HA.out
  clear HA
  simp only [impl_Field_units.l0] at H
  by_cases c6 : x8_1 < a0_0
  rotate_left
  ·rw [if_neg c6] at H
   have c6b0 := decide_eq_false c6
   clear c6
   obtain rfl := Option.some.inj H
   go_wp2
   go_ret
   exact ⟨_, tE, tR HO_3.out, tB⟩
  rw [if_pos c6] at H
  have c6b0 := decide_eq_true c6
  clear c6
  by_cases c7 : 0 ≤ x8_1
  rotate_left
  ·rw [if_neg c7] at H
   exact absurd H (by simp)
  rw [if_pos c7] at H
  have c7b0 := eq_true c7
  have c7b1 := decide_eq_true c7
  clear c7
  obtain ⟨ji8, hji8⟩ : ∃ j_ : Int, (shl .i64 1 x8_1) = j_ := ⟨_, rfl⟩
  first | rw [hji8] at H | simp only [hji8] at H | skip
  have hji8_ : (IntKind.i64.wrap (1 * 2 ^ min x8_1.toNat 64)) = ji8 := hji8
  have hji8z : x8_1 ≤ 64 → (IntKind.i64.wrap (1 * 2 ^ x8_1.toNat)) = ji8 := shl_small hji8
  have hji8u : (IntKind.i64.wrap (2 ^ min x8_1.toNat 64)) = ji8 := by have h_ := hji8_; rw [Int.one_mul] at h_; exact h_
  have hji8v : x8_1 ≤ 64 → (IntKind.i64.wrap (2 ^ x8_1.toNat)) = ji8 := fun hle_ => by have h_ := hji8z hle_; rw [Int.one_mul] at h_; exact h_
  have hji8y : (wrap64 (1 * 2 ^ min x8_1.toNat 64)) = ji8 := (i64_w _).symm.trans hji8_
  have hji8x : x8_1 ≤ 64 → (wrap64 (1 * 2 ^ x8_1.toNat)) = ji8 := fun h_ => (i64_w _).symm.trans (hji8z h_)
  by_cases c9 : x3_1.length < 17592186044416
  rotate_left
  ·rw [if_neg c9] at H
   exact absurd H (by simp)
  rw [if_pos c9] at H
  have LMc9 := Aq.mk c9
  clear c9
  obtain ⟨y940, hy940⟩ : ∃ y_ : List Int, y_ = (x3_1 ++ [ji8]) := ⟨_, rfl⟩
  replace H : (impl_Field_units.l0 k1 y940 a0_0 (wrap64 (x8_1 + 1))) = some r := by first | (rw [hy940]; with_reducible exact H) | (have H2_ := (Option.bind_some _ _).symm.trans H; rw [hy940]; with_reducible exact H2_) | (have H2_ := (Option.bind_some _ _).symm.trans H; with_reducible exact H2_) | with_reducible exact H | (rw [hy940]; exact H) | exact H
  have Ny940 := Aq.mk hy940
  clear hy940
  replace H' := Aq.mk H
  clear H
  go_wp2_with (first | ((with_reducible refine gate_builtin (b := .append) (xs := #[.tmp 11, .tmp 14]) rfl ?_); at_builtin; refine Kd.R_append (Kd.int .i64) (w0 := w) w.heap.size rfl (.tmp 11) (.tmp 14) 24 2 (.int .i64 0) 8 rfl Try.underlying24 info2 rfl (by decide) (by omega) u3 x3_1 ji8 [.int .i64 ji8] (fun _ => True) (fun _ => False) rfl rfl ?aP (fun _ hk => hk.elim) ?aF ?aO ?aB ?aS ?aL ?_; (case aP => exact rfl); (case aB => exact tB); (case aF => exact (fun _ _ => trivial)); (case aO => exact (tR HO_3.out)); (case aS => exact (bQZ tB)); (case aL => have := LMc9.out; omega); intro v941 w10 ho hb hg hat; rw [← Ny940.out] at ho; refine qM3 (blk_grown (g := gb936) (o := .cells #[.int .i64 a0_0, .int .i64 a0_1] 27 (0, 0)) (tG BK936.out) hg (Kd.R_ne HO_3.out BK936.out (by decide))) hb ho ?_; clear BK936 HB HO_3; intro BK936 HB HO942; clear ho hb hg hat))
  go_roundg k1
  case measure => have := HK1.out; omega
  case rel => exact ⟨(y940), (wrap64 (x8_1 + 1)), tS, H', ⟨by have := HK1.out; omega⟩, ⟨tR HO942.out⟩, ⟨tG BK936.out⟩, ⟨tB⟩⟩
def impl_RankOfLinear.f (k : Nat) (a0_0 : Int) (a0_1 : Int) (l1 : List Int) : Option (Int × Int) := (impl_Field_linearCode.f k a0_0 a0_1 (([l1] : List (List Int)))).bind fun t947 => (if t947 = 0 then ((impl_Field_units.f k a0_0 a0_1).bind fun t948 => ((impl_Field_values.f k a0_0 a0_1 l1 t948).bind fun t951 => ((impl_echelon.f k t951).bind fun t954 => ((impl_size_int64.f t954).bind fun t957 => (some (t957, 0)))))) else (some (0, t947)))
theorem impl_RankOfLinear.mono : ∀ a0 a1 a2 k, LeO (impl_RankOfLinear.f k a0 a1 a2) (impl_RankOfLinear.f (k + 1) a0 a1 a2) := by
 intro a0 a1 a2 k
 unfold impl_RankOfLinear.f
 repeat' first
  | (with_reducible first | apply impl_Field_linearCode.mono | apply impl_Field_units.mono | apply impl_Field_values.mono | apply impl_echelon.mono | exact LeO.refl _ | exact LeO.none _ | refine LeO.ite ?_ ?_ | refine LeO.bind ?_ (fun _ => ?_))
  | exact LeO.none _
  | refine LeO.ite ?_ ?_
  | refine LeO.bind ?_ (fun _ => ?_)
def impl_RankOfLinear.T4 : Bool × List (List Nat × List Nat) := (true, [([], []), ([], []), ([], []), ([2], [2]), ([0, 1, 3, 3], [0, 1, 3]), ([4, 4], [4]), ([5, 5], [5]), ([6, 6, 0, 1, 2, 3, 4, 5, 6], [6]), ([7, 0, 1, 2, 3, 4, 5, 6, 7], [])])
def impl_RankOfLinear.B4 : List Nat := [0, 0, 0, 4, 15, 31, 63, 127, 255]
theorem impl_RankOfLinear.tab4 : rtab .any (opsOf Try.f30 4) = impl_RankOfLinear.T4 := by kernel_rfl
theorem impl_RankOfLinear.bits4 : waitsOk impl_RankOfLinear.T4.2 impl_RankOfLinear.B4 = true := by kernel_rfl
theorem impl_RankOfLinear.calls (k : Nat) (a0_0 : Int) (a0_1 : Int) (P1_ : Nat → Prop) (A1 : Option Addr) (c1 : Nat) (l1 : List Int) (r1 : Int) (r2 : Int) (w : World) (hs1 : Kd.V (Kd.int .i64) 2 w w.heap.size (fun k_ => P1_ k_) (.slice A1 l1.length c1) l1) (h : impl_RankOfLinear.f k a0_0 a0_1 l1 = some (r1, r2)) :
 Calls Try.prog 30 #[.agg #[.int .i64 a0_0, .int .i64 a0_1], .slice A1 l1.length c1] w fun e w' => e = .returned (.tuple #[.int .i64 r1, .int .i64 r2]) ∧ Below w.heap.size w w' := by
 have hu27 := Try.underlying27
 have HO1 := Aq.mk (show Kd.V (Kd.int .i64) 2 w w.heap.size (fun k_ => (P1_ k_ ∨ w.heap.size ≤ k_)) (.slice A1 l1.length c1) l1 from Kd.V_mono hs1 (fun k_ hk => .inl hk))
 have HB := Aq.mk (Below.refl w.heap.size w)
 have H : ((impl_Field_linearCode.f k a0_0 a0_1 (([l1] : List (List Int)))).bind fun t947 => (if t947 = 0 then ((impl_Field_units.f k a0_0 a0_1).bind fun t948 => ((impl_Field_values.f k a0_0 a0_1 l1 t948).bind fun t951 => ((impl_echelon.f k t951).bind fun t954 => ((impl_size_int64.f t954).bind fun t957 => (some (t957, 0)))))) else (some (0, t947)))) = some (r1, r2) := h
 clear h
 obtain ⟨y944, hy944⟩ : ∃ y_ : List (List Int), y_ = (([l1] : List (List Int))) := ⟨_, rfl⟩
 replace H : ((impl_Field_linearCode.f k a0_0 a0_1 y944).bind fun t947 => (if t947 = 0 then ((impl_Field_units.f k a0_0 a0_1).bind fun t948 => ((impl_Field_values.f k a0_0 a0_1 l1 t948).bind fun t951 => ((impl_echelon.f k t951).bind fun t954 => ((impl_size_int64.f t954).bind fun t957 => (some (t957, 0)))))) else (some (0, t947)))) = some (r1, r2) := by first | (rw [hy944]; with_reducible exact H) | (have H2_ := (Option.bind_some _ _).symm.trans H; rw [hy944]; with_reducible exact H2_) | (have H2_ := (Option.bind_some _ _).symm.trans H; with_reducible exact H2_) | with_reducible exact H | (rw [hy944]; exact H) | exact H
 have Ny944 := Aq.mk hy944
 clear hy944
 obtain ⟨t947, A3, H⟩ := qBd H
 by_cases c4 : t947 = 0
 rotate_left
 ·rw [if_neg c4] at H
  have c4b0 := beq_eq_false_iff_ne.mpr c4
  have c4b1 := bne_iff_ne.mpr c4
  simp only [Option.some.injEq, Prod.mk.injEq] at H
  obtain ⟨rfl, rfl⟩ := H
  go_enter Try.func30, Try.ntmps30
  go_wp2_with (first | ((with_reducible refine gQd (N := 2) rfl ?_); refine xQe ?hg (N := 2) ?hd (cs := #[.int .i64 a0_0, .int .i64 a0_1]) (t := 27) ?hr ?_; (case hd => rfl); (case hg => rfl); (case hr => exact tH); intro gb943 hg w22 hbox hb; refine qM5 (Kd.V_below (Kd.V_elderB (by (with_reducible repeat (first | apply Kd.V_alloc | apply Kd.V_drewN | apply Kd.V_drew)); exact HO1.out) gb943 (Nat.le_of_eq hg.symm)) hb) (bQT tB hb) hbox (tZ w hg) (tZ w hg) ?_; clear HO1 HB; intro HO1 HB BK943 GW943 GE943; clear hb hbox hg; have hcz23_0 : w22.cell? ⟨gb943, 0, none⟩ = some (.int .i64 a0_0) := (kQC BK943.out 0).trans rfl; have hcz23_1 : w22.cell? ⟨gb943, 1, none⟩ = some (.int .i64 a0_1) := (kQC BK943.out 1).trans rfl; have hfz23_0 := kQF BK943.out 0; have hfz23_1 := kQF BK943.out 1) | ((with_reducible refine gQd (N := 9) rfl ?_); refine Kd.N_lit (Kd.slice 2 (Kd.int .i64)) _ 24 ?hg (N' := 9) ?hd (xs := ([l1] : List (List Int))) (inner := [.slice A1 l1.length c1]) (ok := (fun k_ => (P1_ k_ ∨ w.heap.size ≤ k_) ∧ k_ ≠ gb943)) (okp := (fun k_ => (P1_ k_ ∨ w.heap.size ≤ k_) ∧ k_ ≠ gb943)) ?hr ?hp (fun _ hk => hk) ((show ∀ k_, w22.heap.size ≤ k_ → (fun k_ => (P1_ k_ ∨ w.heap.size ≤ k_) ∧ k_ ≠ gb943) k_ from fun k_ hk => ⟨(.inr (Nat.le_trans (bQZ tB) hk)), Kd.freshB (g := gb943) (o := .cells #[.int .i64 a0_0, .int .i64 a0_1] 27 (0, 0)) (tG BK943.out) k_ hk⟩) _ (Nat.le_refl _)) (Below.refl _ _) (Nat.le_refl _) (by simp) ?_; (case hd => rfl); (case hg => rfl); (case hr => exact tH); (case hp => exact (Reps.one (show Kd.FK (Kd.slice 2 (Kd.int .i64)) _ _ l1 [.slice A1 l1.length c1] from (Kd.FK_slice_mk (Kd.V_reads' (Kd.V_mono (ok' := (fun k_ => (P1_ k_ ∨ w.heap.size ≤ k_) ∧ k_ ≠ gb943)) (HO1.out) (fun k_ hk => ⟨hk.1, hk.2⟩))).2.1 (Kd.V_F (Kd.V_mono (ok' := (fun k_ => (P1_ k_ ∨ w.heap.size ≤ k_) ∧ k_ ≠ gb943)) (HO1.out) (fun k_ hk => ⟨hk.1, hk.2⟩))))) (Reps.none _ _))); intro v945 w24 ho25 hb hg_ hnew_; clear hg_ hnew_; (first | rw [← Ny944.out] at ho25 | (simp only [Int.reduceToNat] at ho25; rw [← Ny944.out] at ho25)); refine qM4 (Kd.V_elder' (by (with_reducible repeat (first | apply Kd.V_alloc | apply Kd.V_drewN | apply Kd.V_drew)); exact HO1.out) (Kd.N_base ho25) hb) (Kd.N_lower ho25 (bQZ tB)) (tQ BK943.out hb) (bQT tB hb) ?_; clear HO1 BK943 HB; intro HO1 HO946 BK943 HB; clear hb ho25; obtain ⟨Ao26, co26, eo26⟩ := Kd.N_slice HO946.out; subst eo26) | ((with_reducible refine gQc (f := 41) rfl ?_); refine goesL_ (some 10) rfl rfl Try.func41 (by kernel_rfl) rfl #[.agg #[.int .i64 a0_0, .int .i64 a0_1], .slice Ao26 y944.length co26] rfl tL ?_; (with_reducible refine (impl_Field_linearCode.calls k a0_0 a0_1 _ _ y944 t947 _ ?s1 ?s2 A3.out).mono ?_); (case s1 => exact tC ((Kd.N_reads' HO946.out).2.2)); (case s2 => exact (Kd.N_reads' HO946.out).2.1); rintro e w27 ⟨rfl, hb⟩; refine ⟨_, rfl, ?_⟩; refine qM4 (Kd.V_below (by (with_reducible repeat (first | apply Kd.V_alloc | apply Kd.V_drewN | apply Kd.V_drew)); exact HO1.out) hb) (Kd.N_below (by (with_reducible repeat (first | apply Kd.N_alloc | apply Kd.N_drewN | apply Kd.N_drew)); exact HO946.out) hb) (tQ BK943.out hb) (bQT tB hb) ?_; clear HO1 HO946 BK943 HB; intro HO1 HO946 BK943 HB; (try clear hb); (try clear hb2); (try clear hk); (try clear hi)))
  go_ret2
  exact ⟨tE, tB⟩
 rw [if_pos c4] at H
 have c4b0 := beq_iff_eq.mpr c4
 have c4b1 := bne_eq_false_iff_eq.mpr c4
 clear c4
 obtain ⟨t948, A5, H⟩ := qBd H
 obtain ⟨t951, A6, H⟩ := qBd H
 obtain ⟨t954, A7, H⟩ := qBd H
 obtain ⟨t957, A8, H⟩ := qBd H
 simp only [Option.some.injEq, Prod.mk.injEq] at H
 obtain ⟨rfl, rfl⟩ := H
 go_enter Try.func30, Try.ntmps30
 try go_wp2_with (first | ((with_reducible refine gQd (N := 2) rfl ?_); refine xQe ?hg (N := 2) ?hd (cs := #[.int .i64 a0_0, .int .i64 a0_1]) (t := 27) ?hr ?_; (case hd => rfl); (case hg => rfl); (case hr => exact tH); intro gb943 hg w9 hbox hb; refine qM5 (Kd.V_below (Kd.V_elderB (by (with_reducible repeat (first | apply Kd.V_alloc | apply Kd.V_drewN | apply Kd.V_drew)); exact HO1.out) gb943 (Nat.le_of_eq hg.symm)) hb) (bQT tB hb) hbox (tZ w hg) (tZ w hg) ?_; clear HO1 HB; intro HO1 HB BK943 GW943 GE943; clear hb hbox hg; have hcz10_0 : w9.cell? ⟨gb943, 0, none⟩ = some (.int .i64 a0_0) := (kQC BK943.out 0).trans rfl; have hcz10_1 : w9.cell? ⟨gb943, 1, none⟩ = some (.int .i64 a0_1) := (kQC BK943.out 1).trans rfl; have hfz10_0 := kQF BK943.out 0; have hfz10_1 := kQF BK943.out 1) | ((with_reducible refine gQd (N := 9) rfl ?_); refine Kd.N_lit (Kd.slice 2 (Kd.int .i64)) _ 24 ?hg (N' := 9) ?hd (xs := ([l1] : List (List Int))) (inner := [.slice A1 l1.length c1]) (ok := (fun k_ => (P1_ k_ ∨ w.heap.size ≤ k_) ∧ k_ ≠ gb943)) (okp := (fun k_ => (P1_ k_ ∨ w.heap.size ≤ k_) ∧ k_ ≠ gb943)) ?hr ?hp (fun _ hk => hk) ((show ∀ k_, w9.heap.size ≤ k_ → (fun k_ => (P1_ k_ ∨ w.heap.size ≤ k_) ∧ k_ ≠ gb943) k_ from fun k_ hk => ⟨(.inr (Nat.le_trans (bQZ tB) hk)), Kd.freshB (g := gb943) (o := .cells #[.int .i64 a0_0, .int .i64 a0_1] 27 (0, 0)) (tG BK943.out) k_ hk⟩) _ (Nat.le_refl _)) (Below.refl _ _) (Nat.le_refl _) (by simp) ?_; (case hd => rfl); (case hg => rfl); (case hr => exact tH); (case hp => exact (Reps.one (show Kd.FK (Kd.slice 2 (Kd.int .i64)) _ _ l1 [.slice A1 l1.length c1] from (Kd.FK_slice_mk (Kd.V_reads' (Kd.V_mono (ok' := (fun k_ => (P1_ k_ ∨ w.heap.size ≤ k_) ∧ k_ ≠ gb943)) (HO1.out) (fun k_ hk => ⟨hk.1, hk.2⟩))).2.1 (Kd.V_F (Kd.V_mono (ok' := (fun k_ => (P1_ k_ ∨ w.heap.size ≤ k_) ∧ k_ ≠ gb943)) (HO1.out) (fun k_ hk => ⟨hk.1, hk.2⟩))))) (Reps.none _ _))); intro v945 w11 ho12 hb hg_ hnew_; clear hg_ hnew_; (first | rw [← Ny944.out] at ho12 | (simp only [Int.reduceToNat] at ho12; rw [← Ny944.out] at ho12)); refine qM4 (Kd.V_elder' (by (with_reducible repeat (first | apply Kd.V_alloc | apply Kd.V_drewN | apply Kd.V_drew)); exact HO1.out) (Kd.N_base ho12) hb) (Kd.N_lower ho12 (bQZ tB)) (tQ BK943.out hb) (bQT tB hb) ?_; clear HO1 BK943 HB; intro HO1 HO946 BK943 HB; clear hb ho12; obtain ⟨Ao13, co13, eo13⟩ := Kd.N_slice HO946.out; subst eo13) | ((with_reducible refine gQc (f := 41) rfl ?_); refine goesL_ (some 10) rfl rfl Try.func41 (by kernel_rfl) rfl #[.agg #[.int .i64 a0_0, .int .i64 a0_1], .slice Ao13 y944.length co13] rfl tL ?_; (with_reducible refine (impl_Field_linearCode.calls k a0_0 a0_1 _ _ y944 t947 _ ?s1 ?s2 A3.out).mono ?_); (case s1 => exact tC ((Kd.N_reads' HO946.out).2.2)); (case s2 => exact (Kd.N_reads' HO946.out).2.1); rintro e w14 ⟨rfl, hb⟩; refine ⟨_, rfl, ?_⟩; refine qM4 (Kd.V_below (by (with_reducible repeat (first | apply Kd.V_alloc | apply Kd.V_drewN | apply Kd.V_drew)); exact HO1.out) hb) (Kd.N_below (by (with_reducible repeat (first | apply Kd.N_alloc | apply Kd.N_drewN | apply Kd.N_drew)); exact HO946.out) hb) (tQ BK943.out hb) (bQT tB hb) ?_; clear HO1 HO946 BK943 HB; intro HO1 HO946 BK943 HB; (try clear hb); (try clear hb2); (try clear hk); (try clear hi)))
 have n0_ := Aq.mk (Kd.V_drew HO1.out)
 have n1_ := Aq.mk (Kd.N_drew HO946.out)
 have n2_ := Aq.mk (kQD BK943.out)
 have n3_ := Aq.mk (bQ1 HB.out)
 clear HO1
 clear HO946
 clear BK943
 clear HB
 have HO1 := n0_
 have HO946 := n1_
 have BK943 := n2_
 have HB := n3_
 clear n0_ n1_ n2_ n3_
 refine start_ (n := 9) (S := fun w' => w'.cell? ⟨gb943, 0, none⟩ = some (.int .i64 a0_0) ∧ w'.cell? ⟨gb943, 1, none⟩ = some (.int .i64 a0_1)) (ds := []) #[false, false, false, false, false, false, false, false, false] (by kernel_rfl) rfl rfl ⟨(kQC BK943.out 0).trans rfl, (kQC BK943.out 1).trans rfl⟩ (fun hHeld => ?_); refine with_tabW impl_RankOfLinear.tab4 impl_RankOfLinear.bits4 (fun HT_ HW_ => ?_)
 generalize w14.drew = w15 at HO1 HO946 BK943 HB hHeld ⊢
 refine tP0 1 15 (bm 9 2) ?_
 refine tT2 0 14 (bm 9 3) ?_
 refine tT2 2 16 (bm 9 7) ?_
 refine one_ (i := 3) (N := some 17) (bm 9 15) rfl rfl (one_of HT_.out (by kernel_rfl)) (by decide) (fun K hK => ?_)
 refine goes_ Try.func59 (by kernel_rfl) rfl #[.agg #[.int .i64 a0_0, .int .i64 a0_1]] (by rfl) rfl rfl tL ?_
 with_reducible refine (impl_Field_units.calls k a0_0 a0_1 t948 _ A5.out).mono ?_
 rintro e w16 ⟨v949, rfl, ho0, hb⟩
 refine ⟨_, rfl, ?_⟩
 have n0_ := Aq.mk (Kd.V_elder' (by (with_reducible repeat (first | apply Kd.V_alloc | apply Kd.V_drewN | apply Kd.V_drew)); exact HO1.out) (Kd.R_base ho0) hb)
 have n1_ := Aq.mk (Kd.N_elder' (by (with_reducible repeat (first | apply Kd.N_alloc | apply Kd.N_drewN | apply Kd.N_drew)); exact HO946.out) (Kd.R_base ho0) hb)
 have n2_ := Aq.mk (Kd.R_lower (Kd.R_newM (M := fun k_ => (w.heap.size ≤ k_)) ho0 (bQZ tB) (fun k_ h_ => h_)) (bQZ tB))
 have n3_ := Aq.mk (tQ BK943.out hb)
 have n4_ := Aq.mk (bQT tB hb)
 clear HO1
 clear HO946
 clear BK943
 clear HB
 have HO1 := n0_
 have HO946 := n1_
 have HO950 := n2_
 have BK943 := n3_
 have HB := n4_
 clear n0_ n1_ n2_ n3_ n4_
 (try clear hb)
 (try clear hb2)
 (try clear hk)
 (try clear hi)
 (try clear ho0)
 obtain ⟨Ao17, co17, eo17⟩ := Kd.R_slice HO950.out
 (first | subst eo17 | (injection eo17 with f1_ f2_ f3_; have f4_ := f1_.symm; have f5_ := f3_.symm; clear f1_ f2_ f3_; subst f4_; subst f5_))
 refine hK.out _ _ ⟨(kQC BK943.out 0).trans rfl, (kQC BK943.out 1).trans rfl⟩ (fun hHeld => ?_)
 clear hK K
 refine tN 17 ?_
 refine one_ (i := 4) (N := some 18) (bm 9 31) rfl rfl (one_of HT_.out (by kernel_rfl)) (by decide) (fun K hK => ?_)
 refine goes_ Try.func58 (by kernel_rfl) rfl #[.agg #[.int .i64 a0_0, .int .i64 a0_1], .slice A1 l1.length c1, .slice Ao17 t948.length co17] (by rfl) rfl rfl tL ?_
 with_reducible refine (impl_Field_values.calls k a0_0 a0_1 _ _ l1 _ _ t948 t951 _ ?s1 ?s2 ?s3 ?s4 A6.out).mono ?_
 (case s1 => exact tC ((Kd.V_reads' HO1.out).2.2))
 (case s2 => exact (Kd.V_reads' HO1.out).2.1)
 (case s3 => exact tC ((Kd.R_reads' HO950.out).2.2))
 (case s4 => exact (Kd.R_reads' HO950.out).2.1)
 rintro e w18 ⟨v952, rfl, ho0, hb⟩
 refine ⟨_, rfl, ?_⟩
 have n0_ := Aq.mk (Kd.V_elder' (by (with_reducible repeat (first | apply Kd.V_alloc | apply Kd.V_drewN | apply Kd.V_drew)); exact HO1.out) (Kd.R_base ho0) hb)
 have n1_ := Aq.mk (Kd.N_elder' (by (with_reducible repeat (first | apply Kd.N_alloc | apply Kd.N_drewN | apply Kd.N_drew)); exact HO946.out) (Kd.R_base ho0) hb)
 have n2_ := Aq.mk (Kd.R_elder' (tR HO950.out) (Kd.R_base ho0) hb)
 have n3_ := Aq.mk (Kd.R_lower (Kd.R_new' (Kd.R_newM (M := fun k_ => (w.heap.size ≤ k_)) ho0 (bQZ tB) (fun k_ h_ => h_)) (Kd.R_lt (tR HO950.out))) (bQZ tB))
 have n4_ := Aq.mk (tQ BK943.out hb)
 have n5_ := Aq.mk (bQT tB hb)
 clear HO1
 clear HO946
 clear HO950
 clear BK943
 clear HB
 have HO1 := n0_
 have HO946 := n1_
 have HO950 := n2_
 have HO953 := n3_
 have BK943 := n4_
 have HB := n5_
 clear n0_ n1_ n2_ n3_ n4_ n5_
 (try clear hb)
 (try clear hb2)
 (try clear hk)
 (try clear hi)
 (try clear ho0)
 obtain ⟨Ao19, co19, eo19⟩ := Kd.R_slice HO953.out
 (first | subst eo19 | (injection eo19 with f1_ f2_ f3_; have f4_ := f1_.symm; have f5_ := f3_.symm; clear f1_ f2_ f3_; subst f4_; subst f5_))
 refine hK.out _ _ ⟨(kQC BK943.out 0).trans rfl, (kQC BK943.out 1).trans rfl⟩ (fun hHeld => ?_)
 clear hK K
 refine tN 18 ?_
 refine one_ (i := 5) (N := some 19) (bm 9 63) rfl rfl (one_of HT_.out (by kernel_rfl)) (by decide) (fun K hK => ?_)
 refine goes_ Try.func57 (by kernel_rfl) rfl #[.slice Ao19 t951.length co19] (by rfl) rfl rfl tL ?_
 with_reducible refine (impl_echelon.calls k _ _ t951 t954 _ ?s1 ?s2 A7.out).mono ?_
 (case s1 => exact tC ((Kd.R_reads' HO953.out).2.2))
 (case s2 => exact (Kd.R_reads' HO953.out).2.1)
 rintro e w20 ⟨v955, rfl, ho0, hb⟩
 refine ⟨_, rfl, ?_⟩
 have n0_ := Aq.mk (Kd.V_elder' (by (with_reducible repeat (first | apply Kd.V_alloc | apply Kd.V_drewN | apply Kd.V_drew)); exact HO1.out) (Kd.R_base ho0) hb)
 have n1_ := Aq.mk (Kd.N_elder' (by (with_reducible repeat (first | apply Kd.N_alloc | apply Kd.N_drewN | apply Kd.N_drew)); exact HO946.out) (Kd.R_base ho0) hb)
 have n2_ := Aq.mk (Kd.R_elder' (tR HO950.out) (Kd.R_base ho0) hb)
 have n3_ := Aq.mk (Kd.R_elder' (tR HO953.out) (Kd.R_base ho0) hb)
 have n4_ := Aq.mk (Kd.R_lower (Kd.R_new' (Kd.R_new' (Kd.R_newM (M := fun k_ => (w.heap.size ≤ k_)) ho0 (bQZ tB) (fun k_ h_ => h_)) (Kd.R_lt (tR HO950.out))) (Kd.R_lt (tR HO953.out))) (bQZ tB))
 have n5_ := Aq.mk (tQ BK943.out hb)
 have n6_ := Aq.mk (bQT tB hb)
 clear HO1
 clear HO946
 clear HO950
 clear HO953
 clear BK943
 clear HB
 have HO1 := n0_
 have HO946 := n1_
 have HO950 := n2_
 have HO953 := n3_
 have HO956 := n4_
 have BK943 := n5_
 have HB := n6_
 clear n0_ n1_ n2_ n3_ n4_ n5_ n6_
 (try clear hb)
 (try clear hb2)
 (try clear hk)
 (try clear hi)
 (try clear ho0)
 obtain ⟨Ao21, co21, eo21⟩ := Kd.R_slice HO956.out
 (first | subst eo21 | (injection eo21 with f1_ f2_ f3_; have f4_ := f1_.symm; have f5_ := f3_.symm; clear f1_ f2_ f3_; subst f4_; subst f5_))
 refine hK.out _ _ ⟨(kQC BK943.out 0).trans rfl, (kQC BK943.out 1).trans rfl⟩ (fun hHeld => ?_)
 clear hK K
 refine tN 19 ?_
 refine one_ (i := 6) (N := some 20) (bm 9 127) rfl rfl (one_of HT_.out (by kernel_rfl)) (by decide) (fun K hK => ?_)
 refine goes_ Try.func56 (by kernel_rfl) rfl #[.slice Ao21 t954.length co21] (by rfl) rfl rfl tL ?_
 with_reducible refine (impl_size_int64.calls _ _ t954 t957 _ ?s1 ?s2 A8.out).mono ?_
 (case s1 => exact tC ((Kd.R_reads' HO956.out).2.2))
 (case s2 => exact (Kd.R_reads' HO956.out).2.1)
 rintro e w' ⟨rfl, ⟨nd, rfl⟩⟩
 refine ⟨_, rfl, ?_⟩
 refine hK.out _ _ ⟨(kQC BK943.out 0).trans rfl, (kQC BK943.out 1).trans rfl⟩ (fun hHeld => ?_)
 clear hK K
 refine tN 20 ?_
 refine tP0 7 4 (bm 9 255) ?_
 refine tP0 8 5 (bm 9 511) ?_
 refine done_ (done_of HT_.out (by kernel_rfl)) ?_
 try go_wp2
 go_ret2
 exact ⟨tE, tB⟩
def laws_a2Has.l0 : Nat → List Int → Int → Int → Option (Bool)
  | 0, _, _, _ => none
  | k + 1, x0, x1, x5 => if x5 < (x0.length : Int) then (if 0 ≤ x5 then (if (rd x0 x5) = x1 then (some true) else (laws_a2Has.l0 k x0 x1 (wrap64 (x5 + 1)))) else (none)) else (some false)
def laws_a2Has.f (k : Nat) (l0 : List Int) (a1 : Int) : Option (Bool) := laws_a2Has.l0 k l0 a1 0
theorem laws_a2Has.mono_l : ∀ k, (∀ y0 y1 y2, LeO (laws_a2Has.l0 k y0 y1 y2) (laws_a2Has.l0 (k + 1) y0 y1 y2))
 | 0 => fun _ _ _ r h => by simp [laws_a2Has.l0] at h
 | k + 1 => by
  have ih0 := laws_a2Has.mono_l k
  ·intro y0 y1 y2
   unfold laws_a2Has.l0
   repeat' first
   | (with_reducible first | apply ih0 | exact LeO.refl _ | exact LeO.none _ | refine LeO.ite ?_ ?_ | refine LeO.bind ?_ (fun _ => ?_))
   | exact LeO.none _
   | refine LeO.ite ?_ ?_
   | refine LeO.bind ?_ (fun _ => ?_)
theorem laws_a2Has.mono : ∀ a0 a1 k, LeO (laws_a2Has.f k a0 a1) (laws_a2Has.f (k + 1) a0 a1) := by
 intro a0 a1 k
 have ih0 := laws_a2Has.mono_l k
 unfold laws_a2Has.f
 repeat' first
  | (with_reducible first | apply ih0 | exact LeO.refl _ | exact LeO.none _ | refine LeO.ite ?_ ?_ | refine LeO.bind ?_ (fun _ => ?_))
  | exact LeO.none _
  | refine LeO.ite ?_ ?_
  | refine LeO.bind ?_ (fun _ => ?_)
theorem laws_a2Has.calls (k : Nat) (A0 : Option Addr) (c0 : Nat) (l0 : List Int) (a1 : Int) (r : Bool) (w : World) (hr0 : Kd.C (Kd.int .i64) w A0 l0.length l0) (hc0 : l0.length ≤ c0) (h : laws_a2Has.f k l0 a1 = some r) :
 Calls Try.prog 31 #[.slice A0 l0.length c0, .int .i64 a1] w fun e w' => e = .returned (.bool r) ∧ Dq w w' := by
 have HR0 := Aq.mk hr0
 have HC0 := Aq.mk hc0
 clear hr0 hc0
 have H : (laws_a2Has.l0 k l0 a1 0) = some r := h
 clear h
 replace H' := Aq.mk H
 clear H
 go_enter Try.func31, Try.ntmps31
 go_wp2
 go_loopg [5] k (fun kq v5 w' => ∃ (x5_1 : Int), v5 = .int .i64 x5_1 ∧ Aq (laws_a2Has.l0 kq l0 a1 x5_1 = some r) ∧ Aq (kq ≤ k) ∧ Dq w w')
 case atStart => exact ⟨(0), tS, H', ⟨Nat.le_refl _⟩, tD⟩
 clear H'
 obtain ⟨x5_1, rfl, HA, HK1, ⟨m1, rfl⟩⟩ := hrel
 cases gk with
 | zero => exact absurd HA.out (by simp [laws_a2Has.l0])
 | succ k1 =>
  have H := HA.out
  clear HA
  simp only [laws_a2Has.l0] at H
  by_cases c3 : x5_1 < (l0.length : Int)
  rotate_left
  ·rw [if_neg c3] at H
   have c3b0 := decide_eq_false c3
   clear c3
   obtain rfl := Option.some.inj H
   go_wp2
   go_ret
   exact ⟨tS, tD⟩
  rw [if_pos c3] at H
  have c3b0 := decide_eq_true c3
  clear c3
  by_cases c4 : 0 ≤ x5_1
  rotate_left
  ·rw [if_neg c4] at H
   exact absurd H (by simp)
  rw [if_pos c4] at H
  have c4b0 := decide_eq_true c4
  clear c4
  by_cases c5 : (rd l0 x5_1) = a1
  ·rw [if_pos c5] at H
   have c5b0 := beq_iff_eq.mpr c5
   have c5b1 := bne_eq_false_iff_eq.mpr c5
   clear c5
   obtain rfl := Option.some.inj H
   have p958 : 0 ≤ (x5_1 : Int) := of_decide_eq_true tA
   have q958 : x5_1 < (l0.length : Int) := of_decide_eq_true tA
   obtain ⟨ad958, e958, hx958_0⟩ := Kd.at_int HR0.out x5_1 p958 q958
   cases e958
   replace p958 := eq_true p958
   replace q958 := eq_true q958
   go_wp2
   go_ret
   exact ⟨tS, tD⟩
  rw [if_neg c5] at H
  have c5b0 := beq_eq_false_iff_ne.mpr c5
  have c5b1 := bne_iff_ne.mpr c5
  replace H' := Aq.mk H
  clear H
  have p958 : 0 ≤ (x5_1 : Int) := of_decide_eq_true tA
  have q958 : x5_1 < (l0.length : Int) := of_decide_eq_true tA
  obtain ⟨ad958, e958, hx958_0⟩ := Kd.at_int HR0.out x5_1 p958 q958
  cases e958
  replace p958 := eq_true p958
  replace q958 := eq_true q958
  go_wp2
  go_roundg k1
  case measure => have := HK1.out; omega
  case rel => exact ⟨(wrap64 (x5_1 + 1)), tS, H', ⟨by have := HK1.out; omega⟩, tD⟩
end Go.Proofs.Ytkhjoomjjdgkjaa.P
