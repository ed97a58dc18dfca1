/- Functions of the program and what they tell, as the printing program wrote it. -/
import Derived.Test.YtpigghpimgkilaaPx0
import Derived.Test.YtpigghpimgkilaaPx1
import Derived.Test.YtpigghpimgkilaaPx2
namespace Go.Proofs.Ytpigghpimgkilaa.P
open Go.Shelf Go.RowKit Go.Proofs.YtpigghpimgkilaaW.PrintWords Go.Proofs.YtpigghpimgkilaaW.PrintLast Go.Proofs.YtpigghpimgkilaaW.PrintMore
attribute [local go_sem] max2_int min2_int max_two min_two max_three min_three max_four min_four
set_option linter.unusedVariables false
set_option linter.unusedSimpArgs false
set_option maxHeartbeats 8000000
set_option maxRecDepth 100000
def spec_l00Own.f (l0 : List Int) : Option (List Int) := (some (([] : List Int) : List Int)).bind fun y123 => (if y123.length + l0.length < 17592186044416 then (some (y123 ++ l0)) else (none))
theorem spec_l00Own.calls (A0 : Option Addr) (c0 : Nat) (l0 : List Int) (r : List Int) (w : World) (hr0 : Kd.C (Kd.int .i64) w A0 l0.length l0) (hc0 : l0.length ≤ c0) (h : spec_l00Own.f l0 = some r) :
 Calls Try.prog 51 #[.slice A0 l0.length c0] w fun e w' => ∃ v0_ : Value, e = .returned (v0_) ∧ Kd.R (Kd.int .i64) 2 w' w.heap.size (fun _ => True) v0_ r ∧ Below w.heap.size w w' := by
 have HR0 := Aq.mk hr0
 have HC0 := Aq.mk hc0
 clear hr0 hc0
 have HB := Aq.mk (Below.refl w.heap.size w)
 have H : ((some (([] : List Int) : List Int)).bind fun y123 => (if y123.length + l0.length < 17592186044416 then (some (y123 ++ l0)) else (none))) = some r := h
 clear h
 obtain ⟨y123, hy123⟩ : ∃ y_ : List Int, y_ = (([] : List Int)) := ⟨_, rfl⟩
 replace H : (if y123.length + l0.length < 17592186044416 then (some (y123 ++ l0)) else (none)) = some r := by first | (rw [hy123]; with_reducible exact H) | (have H2_ := (Option.bind_some _ _).symm.trans H; rw [hy123]; with_reducible exact H2_) | (have H2_ := (Option.bind_some _ _).symm.trans H; with_reducible exact H2_) | with_reducible exact H | (rw [hy123]; exact H) | exact H
 have Ny123 := Aq.mk hy123
 clear hy123
 by_cases c2 : y123.length + l0.length < 17592186044416
 rotate_left
 ·rw [if_neg c2] at H
  exact absurd H (by simp)
 rw [if_pos c2] at H
 have LMc2 := Aq.mk c2
 clear c2
 obtain ⟨y126, hy126⟩ : ∃ y_ : List Int, y_ = (y123 ++ l0) := ⟨_, rfl⟩
 replace H : (some y126) = some r := by first | (rw [hy126]; with_reducible exact H) | (have H2_ := (Option.bind_some _ _).symm.trans H; rw [hy126]; with_reducible exact H2_) | (have H2_ := (Option.bind_some _ _).symm.trans H; with_reducible exact H2_) | with_reducible exact H | (rw [hy126]; exact H) | exact H
 have Ny126 := Aq.mk hy126
 clear hy126
 obtain rfl := Option.some.inj H
 go_enter Try.func51, Try.ntmps51
 go_wp2_with (first | ((with_reducible refine gQd (N := 3) rfl ?_); refine Kd.R_lit (Kd.int .i64) _ 2 ?hg (N := 3) ?hd (xs := ([] : List Int)) (inner := []) (ok := fun _ => True) (okp := fun _ => True) ?hr ?hp (fun _ hk => hk) trivial (Below.refl _ _) (Nat.le_refl _) (by simp) ?_; (case hd => rfl); (case hg => rfl); (case hr => exact tH); (case hp => exact (Reps.none _ _)); intro v124 w3 ho4 hb hg_ hnew_; clear hg_ hnew_; (first | rw [← Ny123.out] at ho4 | (simp only [Int.reduceToNat] at ho4; rw [← Ny123.out] at ho4)); refine qM2 (Kd.R_lower ho4 (bQZ tB)) (bQT tB hb) ?_; clear HB; intro HO125 HB; clear hb ho4) | ((with_reducible refine gate_builtin (b := .append) (xs := #[.tmp 3, .tmp 4]) rfl ?_); at_builtin; refine Kd.R_append_rows (Kd.int .i64) (w0 := w) w.heap.size rfl (.tmp 3) (.tmp 4) 24 2 (.int .i64 0) 8 rfl Try.underlying24 info2 rfl (by decide) (by omega) v124 y123 l0 _ _ _ (fun _ => True) (fun _ => False) rfl rfl ?aO ?aR (fun _ _ h => h) (fun _ h => h.elim) ?aF ?aB ?aS ?aL ?_; (case aR => exact tC ((Kd.C_below HR0.out HB.out))); (case aB => exact tB); (case aF => exact (fun _ _ => trivial)); (case aO => exact (tR HO125.out)); (case aS => exact (bQZ tB)); (case aL => have := LMc2.out; omega); intro v127 w5 ho hb hg hat; rw [← Ny126.out] at ho; refine qM2 hb ho ?_; clear HB HO125; intro HB HO128; clear ho hb hg hat))
 go_ret
 exact ⟨_, tE, tR HO128.out, tB⟩
def spec_l03Trim.l0 : Nat → List Int → Int → Option (List Int)
  | 0, _, _ => none
  | k + 1, x0, x3 => if x3 > 0 then (if 0 ≤ (wrap64 (x3 - 1)) then (if (wrap64 (x3 - 1)) < (x0.length : Int) then (if (rd x0 (wrap64 (x3 - 1))) = 0 then (spec_l03Trim.l0 k x0 (wrap64 (x3 - 1))) else (if 0 ≤ x3 then (if x3 ≤ (x0.length : Int) then ((spec_l00Own.f (x0.take (x3 : Int).toNat)).bind fun t131 => (some t131)) else (none)) else (none))) else (none)) else (none)) else (if 0 ≤ x3 then (if x3 ≤ (x0.length : Int) then ((spec_l00Own.f (x0.take (x3 : Int).toNat)).bind fun t135 => (some t135)) else (none)) else (none))
def spec_l03Trim.f (k : Nat) (l0 : List Int) : Option (List Int) := spec_l03Trim.l0 k l0 (l0.length : Int)
theorem spec_l03Trim.mono_l : ∀ k, (∀ y0 y1, LeO (spec_l03Trim.l0 k y0 y1) (spec_l03Trim.l0 (k + 1) y0 y1))
 | 0 => fun _ _ r h => by simp [spec_l03Trim.l0] at h
 | k + 1 => by
  have ih0 := spec_l03Trim.mono_l k
  ·intro y0 y1
   unfold spec_l03Trim.l0
   repeat' first
   | (with_reducible first | apply ih0 | exact LeO.refl _ | exact LeO.none _ | refine LeO.ite ?_ ?_ | refine LeO.bind ?_ (fun _ => ?_))
   | exact LeO.none _
   | refine LeO.ite ?_ ?_
   | refine LeO.bind ?_ (fun _ => ?_)
theorem spec_l03Trim.mono : ∀ a0 k, LeO (spec_l03Trim.f k a0) (spec_l03Trim.f (k + 1) a0) := by
 intro a0 k
 have ih0 := spec_l03Trim.mono_l k
 unfold spec_l03Trim.f
 repeat' first
  | (with_reducible first | apply ih0 | exact LeO.refl _ | exact LeO.none _ | refine LeO.ite ?_ ?_ | refine LeO.bind ?_ (fun _ => ?_))
  | exact LeO.none _
  | refine LeO.ite ?_ ?_
  | refine LeO.bind ?_ (fun _ => ?_)
theorem spec_l03Trim.calls (k : Nat) (A0 : Option Addr) (c0 : Nat) (l0 : List Int) (r : List Int) (w : World) (hr0 : Kd.C (Kd.int .i64) w A0 l0.length l0) (hc0 : l0.length ≤ c0) (h : spec_l03Trim.f k l0 = some r) :
 Calls Try.prog 27 #[.slice A0 l0.length c0] w fun e w' => ∃ v0_ : Value, e = .returned (v0_) ∧ Kd.R (Kd.int .i64) 2 w' w.heap.size (fun _ => True) v0_ r ∧ Below w.heap.size w w' := by
 have HR0 := Aq.mk hr0
 have HC0 := Aq.mk hc0
 clear hr0 hc0
 have HB := Aq.mk (Below.refl w.heap.size w)
 have H : (spec_l03Trim.l0 k l0 (l0.length : Int)) = some r := h
 clear h
 replace H' := Aq.mk H
 clear H
 go_enter Try.func27, Try.ntmps27
 go_wp2
 go_loopg [3] k (fun kq v3 w' => ∃ (x3_1 : Int), v3 = .int .i64 x3_1 ∧ Aq (spec_l03Trim.l0 kq l0 x3_1 = some r) ∧ Aq (kq ≤ k) ∧ Aq (Below w.heap.size w w'))
 case atStart => exact ⟨((l0.length : Int)), tS, H', ⟨Nat.le_refl _⟩, ⟨tB⟩⟩
 clear H'
 obtain ⟨x3_1, rfl, HA, HK1, HB⟩ := hrel
 cases gk with
 | zero => exact absurd HA.out (by simp [spec_l03Trim.l0])
 | succ k1 =>
  have H := HA.out
  clear HA
  simp only [spec_l03Trim.l0] at H
  by_cases c2 : x3_1 > 0
  rotate_left
  ·rw [if_neg c2] at H
   have c2b0 := decide_eq_false c2
   clear c2
   by_cases c12 : 0 ≤ x3_1
   rotate_left
   ·rw [if_neg c12] at H
    exact absurd H (by simp)
   rw [if_pos c12] at H
   have c12b0 := eq_true c12
   have c12b1 := decide_eq_true c12
   clear c12
   by_cases c13 : x3_1 ≤ (l0.length : Int)
   rotate_left
   ·rw [if_neg c13] at H
    exact absurd H (by simp)
   rw [if_pos c13] at H
   have c13b0 := eq_true c13
   have c13b1 := decide_eq_true c13
   clear c13
   obtain ⟨t135, A14, H⟩ := qBd H
   obtain rfl := Option.some.inj H
   obtain ⟨i015, hi015, _, hsz15, _⟩ := info_parts info2
   obtain ⟨hcut15, hA15, hC15⟩ := print_take_of (P := Try.prog) (Value.int .i64) 0 24 2 .i64 Try.underlying24 hi015 hsz15 A0 c0 l0 x3_1 (of_decide_eq_true tA) (of_decide_eq_true tA) HC0.out
   have HR134 := Aq.mk (Kd.C_of_reads (h1 := fun _ => rfl) (hA15 _ (Kd.reads_of_C HR0.out)))
   have HC134 := Aq.mk hC15
   clear hA15 hC15 hi015 hsz15
   go_wp2_with (first | ((with_reducible refine gQc (f := 51) rfl ?_); refine goesL_ (some 21) rfl rfl Try.func51 (by kernel_rfl) rfl #[.slice A0 (l0.take (x3_1 : Int).toNat).length c0] rfl (by (try simp only [List.map_toArray, List.map_cons, List.map_nil]); first | done | (rw [show (l0.take (x3_1 : Int).toNat).length = x3_1.toNat from (by rw [List.length_take]; have h_ : (x3_1 : Int) ≤ (l0.length : Int) := of_decide_eq_true tA; omega)] <;> rfl) | rfl | (simp only [List.length_drop, List.length_take]; rfl)) ?_; (with_reducible refine (spec_l00Own.calls _ _ (l0.take (x3_1 : Int).toNat) t135 _ ?s1 ?s2 A14.out).mono ?_); (case s1 => exact tC ((Kd.C_below HR134.out HB.out))); (case s2 => exact HC134.out); rintro e w16 ⟨v136, rfl, ho0, hb⟩; refine ⟨_, rfl, ?_⟩; refine qM2 (Kd.R_lower ho0 (bQZ tB)) (bQT tB hb) ?_; clear HB; intro HO137 HB; (try clear hb); (try clear hb2); (try clear hk); (try clear hi); (try clear ho0)))
   go_ret
   exact ⟨_, tE, tR HO137.out, tB⟩
  rw [if_pos c2] at H
  have c2b0 := decide_eq_true c2
  clear c2
  obtain ⟨ji3, hji3⟩ : ∃ j_ : Int, (wrap64 (x3_1 - 1)) = j_ := ⟨_, rfl⟩
  first | rw [hji3] at H | simp only [hji3] at H | skip
  have hji3w : (IntKind.i64.wrap (x3_1 - 1)) = ji3 := (i64_w _).trans hji3
  by_cases c4 : 0 ≤ (ji3)
  rotate_left
  ·rw [if_neg c4] at H
   exact absurd H (by simp)
  rw [if_pos c4] at H
  have c4b0 := decide_eq_true c4
  clear c4
  by_cases c5 : (ji3) < (l0.length : Int)
  rotate_left
  ·rw [if_neg c5] at H
   exact absurd H (by simp)
  rw [if_pos c5] at H
  have c5b0 := decide_eq_true c5
  clear c5
  by_cases c6 : (rd l0 (ji3)) = 0
  ·rw [if_pos c6] at H
   have c6b0 := beq_iff_eq.mpr c6
   have c6b1 := bne_eq_false_iff_eq.mpr c6
   clear c6
   replace H' := Aq.mk H
   clear H
   have p129 : 0 ≤ ((ji3) : Int) := of_decide_eq_true tA
   have q129 : (ji3) < (l0.length : Int) := of_decide_eq_true tA
   obtain ⟨ad129, e129, hx129_0⟩ := Kd.at_int HR0.out (ji3) p129 q129
   cases e129
   replace hx129_0 := (HB.out.cell (World.block_lt_of_cell? w _ hx129_0)).trans hx129_0
   replace p129 := eq_true p129
   replace q129 := eq_true q129
   go_wp2
   go_roundg k1
   case measure => have := HK1.out; omega
   case rel => exact ⟨(ji3), (by first | rfl | (simp; done) | (simp only [← hji3] <;> (first | rfl | simp)) | (simp [*]; done)), H', ⟨by have := HK1.out; omega⟩, ⟨tB⟩⟩
  rw [if_neg c6] at H
  have c6b0 := beq_eq_false_iff_ne.mpr c6
  have c6b1 := bne_iff_ne.mpr c6
  by_cases c7 : 0 ≤ x3_1
  rotate_left
  ·rw [if_neg c7] at H
   exact absurd H (by simp)
  rw [if_pos c7] at H
  have c7b0 := eq_true c7
  have c7b1 := decide_eq_true c7
  clear c7
  by_cases c8 : x3_1 ≤ (l0.length : Int)
  rotate_left
  ·rw [if_neg c8] at H
   exact absurd H (by simp)
  rw [if_pos c8] at H
  have c8b0 := eq_true c8
  have c8b1 := decide_eq_true c8
  clear c8
  obtain ⟨t131, A9, H⟩ := qBd H
  obtain rfl := Option.some.inj H
  have p129 : 0 ≤ ((ji3) : Int) := of_decide_eq_true tA
  have q129 : (ji3) < (l0.length : Int) := of_decide_eq_true tA
  obtain ⟨ad129, e129, hx129_0⟩ := Kd.at_int HR0.out (ji3) p129 q129
  cases e129
  replace hx129_0 := (HB.out.cell (World.block_lt_of_cell? w _ hx129_0)).trans hx129_0
  replace p129 := eq_true p129
  replace q129 := eq_true q129
  obtain ⟨i010, hi010, _, hsz10, _⟩ := info_parts info2
  obtain ⟨hcut10, hA10, hC10⟩ := print_take_of (P := Try.prog) (Value.int .i64) 0 24 2 .i64 Try.underlying24 hi010 hsz10 (some ad129) c0 l0 x3_1 (of_decide_eq_true tA) (of_decide_eq_true tA) HC0.out
  have HR130 := Aq.mk (Kd.C_of_reads (h1 := fun _ => rfl) (hA10 _ (Kd.reads_of_C HR0.out)))
  have HC130 := Aq.mk hC10
  clear hA10 hC10 hi010 hsz10
  go_wp2_with (first | ((with_reducible refine gQc (f := 51) rfl ?_); refine goesL_ (some 21) rfl rfl Try.func51 (by kernel_rfl) rfl #[.slice (some ad129) (l0.take (x3_1 : Int).toNat).length c0] rfl (by (try simp only [List.map_toArray, List.map_cons, List.map_nil]); first | done | (rw [show (l0.take (x3_1 : Int).toNat).length = x3_1.toNat from (by rw [List.length_take]; have h_ : (x3_1 : Int) ≤ (l0.length : Int) := of_decide_eq_true tA; omega)] <;> rfl) | rfl | (simp only [List.length_drop, List.length_take]; rfl)) ?_; (with_reducible refine (spec_l00Own.calls _ _ (l0.take (x3_1 : Int).toNat) t131 _ ?s1 ?s2 A9.out).mono ?_); (case s1 => exact tC ((Kd.C_below HR130.out HB.out))); (case s2 => exact HC130.out); rintro e w11 ⟨v132, rfl, ho0, hb⟩; refine ⟨_, rfl, ?_⟩; refine qM2 (Kd.R_lower ho0 (bQZ tB)) (bQT tB hb) ?_; clear HB; intro HO133 HB; (try clear hb); (try clear hb2); (try clear hk); (try clear hi); (try clear ho0)))
  go_ret
  exact ⟨_, by first | rfl | (simp [errW_none, errW_some] <;> rfl) | (simp only [← hji3]; first | rfl | (simp [errW_none, errW_some] <;> rfl)) | (simp [*, errW_none, errW_some] <;> rfl), tR HO133.out, tB⟩
def spec_l01Mul.l0 : Nat → Int → Int → Int → Int → Int → Int → Option (Int)
  | 0, _, _, _, _, _, _ => none
  | k + 1, x1, x2, x7, x8, x149000, x149001 => if x8 < x149000 then (if 0 ≤ (IntKind.u64.wrap (x8)) then (if (Go.bits .and .i64 (shr .i64 x2 (IntKind.u64.wrap (x8))) 1) = 1 then (spec_l01Mul.l0 k x1 x2 (Go.bits .xor .i64 x7 (shl .i64 x1 (IntKind.u64.wrap (x8)))) (wrap64 (x8 + 1)) x149000 x149001) else (spec_l01Mul.l0 k x1 x2 x7 (wrap64 (x8 + 1)) x149000 x149001)) else (none)) else ((spec_l01Rest.f k x7 x149001).bind fun t149 => (some t149))
def spec_l01Mul.f (k : Nat) (a0_0 : Int) (a0_1 : Int) (a1 : Int) (a2 : Int) : Option (Int) := spec_l01Mul.l0 k a1 a2 0 0 a0_0 a0_1
theorem spec_l01Mul.mono_l : ∀ k, (∀ y0 y1 y2 y3 y4 y5, LeO (spec_l01Mul.l0 k y0 y1 y2 y3 y4 y5) (spec_l01Mul.l0 (k + 1) y0 y1 y2 y3 y4 y5))
 | 0 => fun _ _ _ _ _ _ r h => by simp [spec_l01Mul.l0] at h
 | k + 1 => by
  have ih0 := spec_l01Mul.mono_l k
  ·intro y0 y1 y2 y3 y4 y5
   unfold spec_l01Mul.l0
   repeat' first
   | (with_reducible first | apply ih0 | apply spec_l01Rest.mono | exact LeO.refl _ | exact LeO.none _ | refine LeO.ite ?_ ?_ | refine LeO.bind ?_ (fun _ => ?_))
   | exact LeO.none _
   | refine LeO.ite ?_ ?_
   | refine LeO.bind ?_ (fun _ => ?_)
theorem spec_l01Mul.mono : ∀ a0 a1 a2 a3 k, LeO (spec_l01Mul.f k a0 a1 a2 a3) (spec_l01Mul.f (k + 1) a0 a1 a2 a3) := by
 intro a0 a1 a2 a3 k
 have ih0 := spec_l01Mul.mono_l k
 unfold spec_l01Mul.f
 repeat' first
  | (with_reducible first | apply ih0 | apply spec_l01Rest.mono | exact LeO.refl _ | exact LeO.none _ | refine LeO.ite ?_ ?_ | refine LeO.bind ?_ (fun _ => ?_))
  | exact LeO.none _
  | refine LeO.ite ?_ ?_
  | refine LeO.bind ?_ (fun _ => ?_)
theorem spec_l01Mul.calls (k : Nat) (a0_0 : Int) (a0_1 : Int) (a1 : Int) (a2 : Int) (r : Int) (w : World) (h : spec_l01Mul.f k a0_0 a0_1 a1 a2 = some r) :
 Calls Try.prog 50 #[.agg #[.int .i64 a0_0, .int .i64 a0_1], .int .i64 a1, .int .i64 a2] w fun e w' => e = .returned (.int .i64 r) ∧ Below w.heap.size w w' := by
 have hu27 := Try.underlying27
 have HB := Aq.mk (Below.refl w.heap.size w)
 have H : (spec_l01Mul.l0 k a1 a2 0 0 a0_0 a0_1) = some r := h
 clear h
 replace H' := Aq.mk H
 clear H
 go_enter Try.func50, Try.ntmps50
 go_wp2_with (first | ((with_reducible refine gQd (N := 3) rfl ?_); refine xQe ?hg (N := 3) ?hd (cs := #[.int .i64 a0_0, .int .i64 a0_1]) (t := 27) ?hr ?_; (case hd => rfl); (case hg => rfl); (case hr => exact tH); intro gb148 hg w4 hbox hb; refine qM4 (bQT tB hb) hbox (tZ w hg) (tZ w hg) ?_; clear HB; intro HB BK148 GW148 GE148; clear hb hbox hg))
 go_loopg [7, 8] k (fun kq v7 v8 w' => ∃ (x7_1 : Int) (x8_1 : Int), v7 = .int .i64 x7_1 ∧ v8 = .int .i64 x8_1 ∧ Aq (spec_l01Mul.l0 kq a1 a2 x7_1 x8_1 a0_0 a0_1 = some r) ∧ Aq (kq ≤ k) ∧ Aq (w'.heap[gb148]? = some (.cells #[.int .i64 a0_0, .int .i64 a0_1] 27 (0, 0))) ∧ Aq (Below w.heap.size w w'))
 case atStart => exact ⟨(0), (0), tS, tS, H', ⟨Nat.le_refl _⟩, ⟨tG BK148.out⟩, ⟨tB⟩⟩
 clear H'
 obtain ⟨x7_1, x8_1, rfl, rfl, HA, HK1, BK148, HB⟩ := hrel
 cases gk with
 | zero => exact absurd HA.out (by simp [spec_l01Mul.l0])
 | succ k1 =>
  have H := HA.out
  clear HA
  simp only [spec_l01Mul.l0] at H
  by_cases c5 : x8_1 < a0_0
  rotate_left
  ·rw [if_neg c5] at H
   have c5b0 := decide_eq_false c5
   clear c5
   obtain ⟨t149, A14, H⟩ := qBd H
   obtain rfl := Option.some.inj H
   have hcz15_0 : wr.cell? ⟨gb148, 0, none⟩ = some (.int .i64 a0_0) := (kQC BK148.out 0).trans rfl
   have hcz15_1 : wr.cell? ⟨gb148, 1, none⟩ = some (.int .i64 a0_1) := (kQC BK148.out 1).trans rfl
   have hfz15_0 := kQF BK148.out 0
   have hfz15_1 := kQF BK148.out 1
   go_wp2_with (first | ((with_reducible refine gQc (f := 70) rfl ?_); refine goesL_ (some 30) rfl rfl Try.func70 (by kernel_rfl) rfl #[.int .i64 x7_1, .int .i64 a0_1] rfl tL ?_; (with_reducible refine (spec_l01Rest.calls k1 x7_1 a0_1 t149 _ A14.out).mono ?_); rintro e w' ⟨rfl, ⟨nd, rfl⟩⟩; refine ⟨_, rfl, ?_⟩))
   go_ret
   exact ⟨tE, tB⟩
  rw [if_pos c5] at H
  have c5b0 := decide_eq_true c5
  clear c5
  obtain ⟨ji6, hji6⟩ : ∃ j_ : Int, (IntKind.u64.wrap (x8_1)) = j_ := ⟨_, rfl⟩
  first | rw [hji6] at H | simp only [hji6] at H | skip
  by_cases c7 : 0 ≤ (ji6)
  rotate_left
  ·rw [if_neg c7] at H
   exact absurd H (by simp)
  rw [if_pos c7] at H
  have c7b0 := eq_true c7
  have c7b1 := decide_eq_true c7
  clear c7
  obtain ⟨ji8, hji8⟩ : ∃ j_ : Int, (shr .i64 a2 (ji6)) = j_ := ⟨_, rfl⟩
  first | rw [hji8] at H | simp only [hji8] at H | skip
  have hji8_ : (a2 / 2 ^ min (ji6).toNat 64) = ji8 := hji8
  have hji8z : (ji6) ≤ 64 → (a2 / 2 ^ (ji6).toNat) = ji8 := shr_small hji8
  by_cases c9 : (Go.bits .and .i64 (ji8) 1) = 1
  rotate_left
  ·rw [if_neg c9] at H
   have c9b0 := beq_eq_false_iff_ne.mpr c9
   have c9b1 := bne_iff_ne.mpr c9
   replace H' := Aq.mk H
   clear H
   have hcz13_0 : wr.cell? ⟨gb148, 0, none⟩ = some (.int .i64 a0_0) := (kQC BK148.out 0).trans rfl
   have hcz13_1 : wr.cell? ⟨gb148, 1, none⟩ = some (.int .i64 a0_1) := (kQC BK148.out 1).trans rfl
   have hfz13_0 := kQF BK148.out 0
   have hfz13_1 := kQF BK148.out 1
   go_wp2
   go_roundg k1
   case measure => have := HK1.out; omega
   case rel => exact ⟨(x7_1), (wrap64 (x8_1 + 1)), tS, tS, H', ⟨by have := HK1.out; omega⟩, ⟨tG BK148.out⟩, ⟨tB⟩⟩
  rw [if_pos c9] at H
  have c9b0 := beq_iff_eq.mpr c9
  have c9b1 := bne_eq_false_iff_eq.mpr c9
  clear c9
  have c10b0 := eq_true (of_decide_eq_true tA : 0 ≤ (ji6))
  obtain ⟨ji11, hji11⟩ : ∃ j_ : Int, (shl .i64 a1 (ji6)) = j_ := ⟨_, rfl⟩
  first | rw [hji11] at H | simp only [hji11] at H | skip
  have hji11_ : (IntKind.i64.wrap (a1 * 2 ^ min (ji6).toNat 64)) = ji11 := hji11
  have hji11z : (ji6) ≤ 64 → (IntKind.i64.wrap (a1 * 2 ^ (ji6).toNat)) = ji11 := shl_small hji11
  have hji11y : (wrap64 (a1 * 2 ^ min (ji6).toNat 64)) = ji11 := (i64_w _).symm.trans hji11_
  have hji11x : (ji6) ≤ 64 → (wrap64 (a1 * 2 ^ (ji6).toNat)) = ji11 := fun h_ => (i64_w _).symm.trans (hji11z h_)
  replace H' := Aq.mk H
  clear H
  have hcz12_0 : wr.cell? ⟨gb148, 0, none⟩ = some (.int .i64 a0_0) := (kQC BK148.out 0).trans rfl
  have hcz12_1 : wr.cell? ⟨gb148, 1, none⟩ = some (.int .i64 a0_1) := (kQC BK148.out 1).trans rfl
  have hfz12_0 := kQF BK148.out 0
  have hfz12_1 := kQF BK148.out 1
  go_wp2
  go_roundg k1
  case measure => have := HK1.out; omega
  case rel => exact ⟨(Go.bits .xor .i64 x7_1 (ji11)), (wrap64 (x8_1 + 1)), (by first | rfl | (simp; done) | (simp only [← hji11] <;> (first | rfl | simp)) | (simp [*]; done)), tS, H', ⟨by have := HK1.out; omega⟩, ⟨tG BK148.out⟩, ⟨tB⟩⟩
def spec_l01Square.l0 : Nat → Int → Int → Int → Int → Option (Int)
  | 0, _, _, _, _ => none
  | k + 1, x1, x2, x151000, x151001 => if x2 > 0 then ((spec_l01Mul.f k x151000 x151001 x1 x1).bind fun t151 => (spec_l01Square.l0 k t151 (wrap64 (x2 - 1)) x151000 x151001)) else (some x1)
def spec_l01Square.f (k : Nat) (a0_0 : Int) (a0_1 : Int) (a1 : Int) (a2 : Int) : Option (Int) := if a0_0 = 0 then (none) else (spec_l01Square.l0 k a1 (Int.tmod a2 a0_0) a0_0 a0_1)
theorem spec_l01Square.mono_l : ∀ k, (∀ y0 y1 y2 y3, LeO (spec_l01Square.l0 k y0 y1 y2 y3) (spec_l01Square.l0 (k + 1) y0 y1 y2 y3))
 | 0 => fun _ _ _ _ r h => by simp [spec_l01Square.l0] at h
 | k + 1 => by
  have ih0 := spec_l01Square.mono_l k
  ·intro y0 y1 y2 y3
   unfold spec_l01Square.l0
   repeat' first
   | (with_reducible first | apply ih0 | apply spec_l01Mul.mono | exact LeO.refl _ | exact LeO.none _ | refine LeO.ite ?_ ?_ | refine LeO.bind ?_ (fun _ => ?_))
   | exact LeO.none _
   | refine LeO.ite ?_ ?_
   | refine LeO.bind ?_ (fun _ => ?_)
theorem spec_l01Square.mono : ∀ a0 a1 a2 a3 k, LeO (spec_l01Square.f k a0 a1 a2 a3) (spec_l01Square.f (k + 1) a0 a1 a2 a3) := by
 intro a0 a1 a2 a3 k
 have ih0 := spec_l01Square.mono_l k
 unfold spec_l01Square.f
 repeat' first
  | (with_reducible first | apply ih0 | apply spec_l01Mul.mono | exact LeO.refl _ | exact LeO.none _ | refine LeO.ite ?_ ?_ | refine LeO.bind ?_ (fun _ => ?_))
  | exact LeO.none _
  | refine LeO.ite ?_ ?_
  | refine LeO.bind ?_ (fun _ => ?_)
theorem spec_l01Square.calls (k : Nat) (a0_0 : Int) (a0_1 : Int) (a1 : Int) (a2 : Int) (r : Int) (w : World) (h : spec_l01Square.f k a0_0 a0_1 a1 a2 = some r) :
 Calls Try.prog 26 #[.agg #[.int .i64 a0_0, .int .i64 a0_1], .int .i64 a1, .int .i64 a2] w fun e w' => e = .returned (.int .i64 r) ∧ Below w.heap.size w w' := by
 have hu27 := Try.underlying27
 have HB := Aq.mk (Below.refl w.heap.size w)
 have H : (if a0_0 = 0 then (none) else (spec_l01Square.l0 k a1 (Int.tmod a2 a0_0) a0_0 a0_1)) = some r := h
 clear h
 by_cases c4 : a0_0 = 0
 ·rw [if_pos c4] at H
  exact absurd H (by simp)
 rw [if_neg c4] at H
 have c4b0 := beq_eq_false_iff_ne.mpr c4
 have c4b1 := bne_iff_ne.mpr c4
 replace H' := Aq.mk H
 clear H
 go_enter Try.func26, Try.ntmps26
 go_wp2_with (first | ((with_reducible refine gQd (N := 3) rfl ?_); refine xQe ?hg (N := 3) ?hd (cs := #[.int .i64 a0_0, .int .i64 a0_1]) (t := 27) ?hr ?_; (case hd => rfl); (case hg => rfl); (case hr => exact tH); intro gb150 hg w5 hbox hb; refine qM4 (bQT tB hb) hbox (tZ w hg) (tZ w hg) ?_; clear HB; intro HB BK150 GW150 GE150; clear hb hbox hg; have hcz6_0 : w5.cell? ⟨gb150, 0, none⟩ = some (.int .i64 a0_0) := (kQC BK150.out 0).trans rfl; have hcz6_1 : w5.cell? ⟨gb150, 1, none⟩ = some (.int .i64 a0_1) := (kQC BK150.out 1).trans rfl; have hfz6_0 := kQF BK150.out 0; have hfz6_1 := kQF BK150.out 1))
 go_loopg [1, 2] k (fun kq v1 v2 w' => ∃ (x1_1 : Int) (x2_1 : Int), v1 = .int .i64 x1_1 ∧ v2 = .int .i64 x2_1 ∧ Aq (spec_l01Square.l0 kq x1_1 x2_1 a0_0 a0_1 = some r) ∧ Aq (kq ≤ k) ∧ Aq (w'.heap[gb150]? = some (.cells #[.int .i64 a0_0, .int .i64 a0_1] 27 (0, 0))) ∧ Aq (Below w.heap.size w w'))
 case atStart => exact ⟨(a1), (Int.tmod a2 a0_0), tS, tS, H', ⟨Nat.le_refl _⟩, ⟨tG BK150.out⟩, ⟨tB⟩⟩
 clear H'
 try clear c4
 try clear c4b0
 try clear c4b1
 try clear hcz6_0
 try clear hcz6_1
 try clear hfz6_0
 try clear hfz6_1
 obtain ⟨x1_1, x2_1, rfl, rfl, HA, HK1, BK150, HB⟩ := hrel
 cases gk with
 | zero => exact absurd HA.out (by simp [spec_l01Square.l0])
 | succ k1 =>
  have H := HA.out
  clear HA
  simp only [spec_l01Square.l0] at H
  by_cases c7 : x2_1 > 0
  rotate_left
  ·rw [if_neg c7] at H
   have c7b0 := decide_eq_false c7
   clear c7
   obtain rfl := Option.some.inj H
   go_wp2
   go_ret
   exact ⟨tE, tB⟩
  rw [if_pos c7] at H
  have c7b0 := decide_eq_true c7
  clear c7
  obtain ⟨t151, A8, H⟩ := qBd H
  replace H' := Aq.mk H
  clear H
  have hcz9_0 : wr.cell? ⟨gb150, 0, none⟩ = some (.int .i64 a0_0) := (kQC BK150.out 0).trans rfl
  have hcz9_1 : wr.cell? ⟨gb150, 1, none⟩ = some (.int .i64 a0_1) := (kQC BK150.out 1).trans rfl
  have hfz9_0 := kQF BK150.out 0
  have hfz9_1 := kQF BK150.out 1
  go_wp2_with (first | ((with_reducible refine gQc (f := 50) rfl ?_); refine goesL_ (some 18) rfl rfl Try.func50 (by kernel_rfl) rfl #[.agg #[.int .i64 a0_0, .int .i64 a0_1], .int .i64 x1_1, .int .i64 x1_1] rfl tL ?_; (with_reducible refine (spec_l01Mul.calls k1 a0_0 a0_1 x1_1 x1_1 t151 _ A8.out).mono ?_); rintro e w10 ⟨rfl, hb⟩; refine ⟨_, rfl, ?_⟩; refine qM2 (tQ BK150.out hb) (bQT tB hb) ?_; clear BK150 HB; intro BK150 HB; (try clear hb); (try clear hb2); (try clear hk); (try clear hi)))
  go_roundg k1
  case measure => have := HK1.out; omega
  case rel => exact ⟨(t151), (wrap64 (x2_1 - 1)), tS, tS, H', ⟨by have := HK1.out; omega⟩, ⟨tG BK150.out⟩, ⟨tB⟩⟩
def impl_trim.l0 : Nat → List Int → Option (List Int)
  | 0, _ => none
  | k + 1, x0 => if (x0.length : Int) > 0 then (if 0 ≤ (wrap64 ((x0.length : Int) - 1)) then (if (wrap64 ((x0.length : Int) - 1)) < (x0.length : Int) then (if (rd x0 (wrap64 ((x0.length : Int) - 1))) = 0 then (if (wrap64 ((x0.length : Int) - 1)) ≤ (x0.length : Int) then (impl_trim.l0 k (x0.take ((wrap64 ((x0.length : Int) - 1)) : Int).toNat)) else (none)) else (some x0)) else (none)) else (none)) else (some x0)
def impl_trim.f (k : Nat) (l0 : List Int) : Option (List Int) := impl_trim.l0 k l0
theorem impl_trim.mono_l : ∀ k, (∀ y0, LeO (impl_trim.l0 k y0) (impl_trim.l0 (k + 1) y0))
 | 0 => fun _ r h => by simp [impl_trim.l0] at h
 | k + 1 => by
  have ih0 := impl_trim.mono_l k
  ·intro y0
   unfold impl_trim.l0
   repeat' first
   | (with_reducible first | apply ih0 | exact LeO.refl _ | exact LeO.none _ | refine LeO.ite ?_ ?_ | refine LeO.bind ?_ (fun _ => ?_))
   | exact LeO.none _
   | refine LeO.ite ?_ ?_
   | refine LeO.bind ?_ (fun _ => ?_)
theorem impl_trim.mono : ∀ a0 k, LeO (impl_trim.f k a0) (impl_trim.f (k + 1) a0) := by
 intro a0 k
 have ih0 := impl_trim.mono_l k
 unfold impl_trim.f
 repeat' first
  | (with_reducible first | apply ih0 | exact LeO.refl _ | exact LeO.none _ | refine LeO.ite ?_ ?_ | refine LeO.bind ?_ (fun _ => ?_))
  | exact LeO.none _
  | refine LeO.ite ?_ ?_
  | refine LeO.bind ?_ (fun _ => ?_)
theorem impl_trim.calls (k : Nat) (P0_ : Nat → Prop) (u9000_ : Value) (l0 : List Int) (r : List Int) (w0 w : World) (hB : Below w0.heap.size w0 w) (ho0 : Kd.R (Kd.int .i64) 2 w w0.heap.size P0_ u9000_ l0) (h : impl_trim.f k l0 = some r) :
 Calls Try.prog 31 #[u9000_] w fun e w' => ∃ v0_ : Value, e = .returned (v0_) ∧ Kd.R (Kd.int .i64) 2 w' w0.heap.size (fun k_ => (P0_ k_ ∨ w.heap.size ≤ k_)) v0_ r ∧ Below w0.heap.size w0 w' ∧ Kept w w' (fun k_ => P0_ k_) := by
 have HO0 := Aq.mk (show Kd.R (Kd.int .i64) 2 w w0.heap.size (fun k_ => (P0_ k_ ∨ w.heap.size ≤ k_)) u9000_ l0 from Kd.R_mono ho0 (fun k_ hk => (.inl hk)))
 have HK := Aq.mk (Kept.refl w (fun k_ => P0_ k_))
 have HW0 := Aq.mk hB.size
 have HB := Aq.mk hB
 clear hB
 have H : (impl_trim.l0 k l0) = some r := h
 clear h
 replace H' := Aq.mk H
 clear H
 go_enter Try.func31, Try.ntmps31
 go_wp2
 go_loopg [0] k (fun kq v0 w' => ∃ (x0_1 : List Int), Aq (impl_trim.l0 kq x0_1 = some r) ∧ Aq (kq ≤ k) ∧ Aq (Kd.R (Kd.int .i64) 2 w' w0.heap.size (fun k_ => (P0_ k_ ∨ w.heap.size ≤ k_)) v0 x0_1) ∧ Aq (Kept w w' (fun k_ => P0_ k_)) ∧ Aq (Below w0.heap.size w0 w'))
 case atStart => exact ⟨(l0), H', ⟨Nat.le_refl _⟩, ⟨tR HO0.out⟩, ⟨by repeat (first | (with_reducible first | exact HK.out | apply Kept.alloc | apply Kept.drewN | apply Kept.drew) | exact HK.out)⟩, ⟨tB⟩⟩
 clear H'
 obtain ⟨x0_1, HA, HK1, HO_0, HK, HB⟩ := hrel
 cases gk with
 | zero => exact absurd HA.out (by simp [impl_trim.l0])
 | succ k1 =>
  have H := HA.out
  clear HA
  simp only [impl_trim.l0] at H
  by_cases c2 : (x0_1.length : Int) > 0
  rotate_left
  ·rw [if_neg c2] at H
   have c2b0 := decide_eq_false c2
   have c2b1 : decide (0 < x0_1.length) = false := decide_eq_false (by omega)
   clear c2
   obtain rfl := Option.some.inj H
   obtain ⟨Ao11, co11, eo11⟩ := Kd.R_slice HO_0.out
   subst eo11
   go_wp2
   go_ret
   exact ⟨_, tE, tR HO_0.out, tB, by repeat (first | (with_reducible first | exact HK.out | apply Kept.alloc | apply Kept.drewN | apply Kept.drew) | exact HK.out)⟩
  rw [if_pos c2] at H
  have c2b0 := decide_eq_true c2
  have c2b1 : decide (0 < x0_1.length) = true := decide_eq_true (by omega)
  clear c2
  obtain ⟨ji3, hji3⟩ : ∃ j_ : Int, (wrap64 ((x0_1.length : Int) - 1)) = j_ := ⟨_, rfl⟩
  first | rw [hji3] at H | simp only [hji3] at H | skip
  have hji3w : (IntKind.i64.wrap ((x0_1.length : Int) - 1)) = ji3 := (i64_w _).trans hji3
  by_cases c4 : 0 ≤ (ji3)
  rotate_left
  ·rw [if_neg c4] at H
   exact absurd H (by simp)
  rw [if_pos c4] at H
  have c4b0 := decide_eq_true c4
  clear c4
  by_cases c5 : (ji3) < (x0_1.length : Int)
  rotate_left
  ·rw [if_neg c5] at H
   exact absurd H (by simp)
  rw [if_pos c5] at H
  have c5b0 := decide_eq_true c5
  clear c5
  by_cases c6 : (rd x0_1 (ji3)) = 0
  rotate_left
  ·rw [if_neg c6] at H
   have c6b0 := beq_eq_false_iff_ne.mpr c6
   have c6b1 := bne_iff_ne.mpr c6
   obtain rfl := Option.some.inj H
   obtain ⟨Ao10, co10, eo10⟩ := Kd.R_slice HO_0.out
   subst eo10
   have p206 : 0 ≤ ((ji3) : Int) := of_decide_eq_true tA
   have q206 : (ji3) < (x0_1.length : Int) := of_decide_eq_true tA
   obtain ⟨ad206, e206, hx206_0⟩ := Kd.at_int (Kd.R_reads' HO_0.out).2.2 (ji3) p206 q206
   cases e206
   replace p206 := eq_true p206
   replace q206 := eq_true q206
   go_wp2
   go_ret
   exact ⟨_, by first | rfl | (simp [errW_none, errW_some] <;> rfl) | (simp only [← hji3]; first | rfl | (simp [errW_none, errW_some] <;> rfl)) | (simp [*, errW_none, errW_some] <;> rfl), tR HO_0.out, tB, by repeat (first | (with_reducible first | exact HK.out | apply Kept.alloc | apply Kept.drewN | apply Kept.drew) | exact HK.out)⟩
  rw [if_pos c6] at H
  have c6b0 := beq_iff_eq.mpr c6
  have c6b1 := bne_eq_false_iff_eq.mpr c6
  clear c6
  by_cases c7 : (ji3) ≤ (x0_1.length : Int)
  rotate_left
  ·rw [if_neg c7] at H
   exact absurd H (by simp)
  rw [if_pos c7] at H
  have c7b0 := eq_true c7
  have c7b1 := decide_eq_true c7
  clear c7
  obtain ⟨y207, hy207⟩ : ∃ y_ : List Int, y_ = (x0_1.take ((ji3) : Int).toNat) := ⟨_, rfl⟩
  replace H : (impl_trim.l0 k1 y207) = some r := by first | (rw [hy207]; with_reducible exact H) | (have H2_ := (Option.bind_some _ _).symm.trans H; rw [hy207]; with_reducible exact H2_) | (have H2_ := (Option.bind_some _ _).symm.trans H; with_reducible exact H2_) | with_reducible exact H | (rw [hy207]; exact H) | exact H
  have Ny207 := Aq.mk hy207
  clear hy207
  replace H' := Aq.mk H
  clear H
  obtain ⟨Ao8, co8, eo8⟩ := Kd.R_slice HO_0.out
  subst eo8
  have p206 : 0 ≤ ((ji3) : Int) := of_decide_eq_true tA
  have q206 : (ji3) < (x0_1.length : Int) := of_decide_eq_true tA
  obtain ⟨ad206, e206, hx206_0⟩ := Kd.at_int (Kd.R_reads' HO_0.out).2.2 (ji3) p206 q206
  cases e206
  replace p206 := eq_true p206
  replace q206 := eq_true q206
  have q9 : ((ji3) : Int) ≤ ((x0_1.length : Int) : Int) := of_decide_eq_true tA
  obtain ⟨i09, hi09, _, hsz9, _⟩ := info_parts info2
  have hcut9 := cut_to (P := Try.prog) 24 2 .i64 Try.underlying24 hi09 (some ad206) x0_1.length co8 (ji3) (of_decide_eq_true tA) q9 (Kd.R_reads' HO_0.out).2.1
  have hr9 := Kd.R_take (m := ((ji3) : Int).toNat) HO_0.out (by omega)
  have hy9 : y207.length = ((ji3) : Int).toNat := (by rw [Ny207.out, List.length_take]; omega)
  rw [← Ny207.out] at hr9
  rw [← hy9] at hr9 hcut9
  clear hy9 hi09 hsz9 HO_0
  have HO209 := Aq.mk hr9
  clear hr9
  replace q9 := eq_true q9
  go_wp2
  go_roundg k1
  case measure => have := HK1.out; omega
  case rel => exact ⟨(y207), H', ⟨by have := HK1.out; omega⟩, ⟨tR HO209.out⟩, ⟨by repeat (first | (with_reducible first | exact HK.out | apply Kept.alloc | apply Kept.drewN | apply Kept.drew) | exact HK.out)⟩, ⟨tB⟩⟩
def impl_product.l0 : Nat → Int → Int → Int → Option (Int)
  | 0, _, _, _ => none
  | k + 1, x0, x1, x5 => if x1 > 0 then (if (Go.bits .and .i64 x1 1) = 1 then (impl_product.l0 k (wrap64 (x0 * 2)) (x1 / 2) (Go.bits .xor .i64 x5 x0)) else (impl_product.l0 k (wrap64 (x0 * 2)) (x1 / 2) x5)) else (some x5)
def impl_product.f (k : Nat) (a0 : Int) (a1 : Int) : Option (Int) := impl_product.l0 k a0 a1 0
theorem impl_product.mono_l : ∀ k, (∀ y0 y1 y2, LeO (impl_product.l0 k y0 y1 y2) (impl_product.l0 (k + 1) y0 y1 y2))
 | 0 => fun _ _ _ r h => by simp [impl_product.l0] at h
 | k + 1 => by
  have ih0 := impl_product.mono_l k
  ·intro y0 y1 y2
   unfold impl_product.l0
   repeat' first
   | (with_reducible first | apply ih0 | exact LeO.refl _ | exact LeO.none _ | refine LeO.ite ?_ ?_ | refine LeO.bind ?_ (fun _ => ?_))
   | exact LeO.none _
   | refine LeO.ite ?_ ?_
   | refine LeO.bind ?_ (fun _ => ?_)
theorem impl_product.mono : ∀ a0 a1 k, LeO (impl_product.f k a0 a1) (impl_product.f (k + 1) a0 a1) := by
 intro a0 a1 k
 have ih0 := impl_product.mono_l k
 unfold impl_product.f
 repeat' first
  | (with_reducible first | apply ih0 | exact LeO.refl _ | exact LeO.none _ | refine LeO.ite ?_ ?_ | refine LeO.bind ?_ (fun _ => ?_))
  | exact LeO.none _
  | refine LeO.ite ?_ ?_
  | refine LeO.bind ?_ (fun _ => ?_)
theorem impl_product.calls (k : Nat) (a0 : Int) (a1 : Int) (r : Int) (w : World) (h : impl_product.f k a0 a1 = some r) :
 Calls Try.prog 76 #[.int .i64 a0, .int .i64 a1] w fun e w' => e = .returned (.int .i64 r) ∧ Dq w w' := by
 have H : (impl_product.l0 k a0 a1 0) = some r := h
 clear h
 replace H' := Aq.mk H
 clear H
 go_enter Try.func76, Try.ntmps76
 go_wp2
 go_loopg [0, 1, 5] k (fun kq v0 v1 v5 w' => ∃ (x0_1 : Int) (x1_1 : Int) (x5_1 : Int), v0 = .int .i64 x0_1 ∧ v1 = .int .i64 x1_1 ∧ v5 = .int .i64 x5_1 ∧ Aq (impl_product.l0 kq x0_1 x1_1 x5_1 = some r) ∧ Aq (kq ≤ k) ∧ Dq w w')
 case atStart => exact ⟨(a0), (a1), (0), tS, tS, tS, H', ⟨Nat.le_refl _⟩, tD⟩
 clear H'
 obtain ⟨x0_1, x1_1, x5_1, rfl, rfl, rfl, HA, HK1, ⟨m1, rfl⟩⟩ := hrel
 cases gk with
 | zero => exact absurd HA.out (by simp [impl_product.l0])
 | succ k1 =>
  have H := HA.out
  clear HA
  simp only [impl_product.l0] at H
  by_cases c3 : x1_1 > 0
  rotate_left
  ·rw [if_neg c3] at H
   have c3b0 := decide_eq_false c3
   clear c3
   obtain rfl := Option.some.inj H
   go_wp2
   go_ret
   exact ⟨tS, tD⟩
  rw [if_pos c3] at H
  have c3b0 := decide_eq_true c3
  clear c3
  by_cases c4 : (Go.bits .and .i64 x1_1 1) = 1
  ·rw [if_pos c4] at H
   have c4b0 := beq_iff_eq.mpr c4
   have c4b1 := bne_eq_false_iff_eq.mpr c4
   clear c4
   replace H' := Aq.mk H
   clear H
   go_wp2
   go_roundg k1
   case measure => have := HK1.out; omega
   case rel => exact ⟨(wrap64 (x0_1 * 2)), (x1_1 / 2), (Go.bits .xor .i64 x5_1 x0_1), tS, tS, tS, H', ⟨by have := HK1.out; omega⟩, tD⟩
  rw [if_neg c4] at H
  have c4b0 := beq_eq_false_iff_ne.mpr c4
  have c4b1 := bne_iff_ne.mpr c4
  replace H' := Aq.mk H
  clear H
  go_wp2
  go_roundg k1
  case measure => have := HK1.out; omega
  case rel => exact ⟨(wrap64 (x0_1 * 2)), (x1_1 / 2), (x5_1), tS, tS, tS, H', ⟨by have := HK1.out; omega⟩, tD⟩
def impl_Field_mul.f (k : Nat) (a0_0 : Int) (a0_1 : Int) (a1 : Int) (a2 : Int) : Option (Int) := (impl_product.f k a1 a2).bind fun t221 => ((impl_restOf.f k t221 a0_1).bind fun t222 => (some t222))
theorem impl_Field_mul.mono : ∀ a0 a1 a2 a3 k, LeO (impl_Field_mul.f k a0 a1 a2 a3) (impl_Field_mul.f (k + 1) a0 a1 a2 a3) := by
 intro a0 a1 a2 a3 k
 unfold impl_Field_mul.f
 repeat' first
  | (with_reducible first | apply impl_product.mono | apply impl_restOf.mono | exact LeO.refl _ | exact LeO.none _ | refine LeO.ite ?_ ?_ | refine LeO.bind ?_ (fun _ => ?_))
  | exact LeO.none _
  | refine LeO.ite ?_ ?_
  | refine LeO.bind ?_ (fun _ => ?_)
theorem impl_Field_mul.calls (k : Nat) (a0_0 : Int) (a0_1 : Int) (a1 : Int) (a2 : Int) (r : Int) (w : World) (h : impl_Field_mul.f k a0_0 a0_1 a1 a2 = some r) :
 Calls Try.prog 57 #[.agg #[.int .i64 a0_0, .int .i64 a0_1], .int .i64 a1, .int .i64 a2] w fun e w' => e = .returned (.int .i64 r) ∧ Below w.heap.size w w' := by
 have hu27 := Try.underlying27
 have HB := Aq.mk (Below.refl w.heap.size w)
 have H : ((impl_product.f k a1 a2).bind fun t221 => ((impl_restOf.f k t221 a0_1).bind fun t222 => (some t222))) = some r := h
 clear h
 obtain ⟨t221, A4, H⟩ := qBd H
 obtain ⟨t222, A5, H⟩ := qBd H
 obtain rfl := Option.some.inj H
 go_enter Try.func57, Try.ntmps57
 go_wp2_with (first | ((with_reducible refine gQd (N := 3) rfl ?_); refine xQe ?hg (N := 3) ?hd (cs := #[.int .i64 a0_0, .int .i64 a0_1]) (t := 27) ?hr ?_; (case hd => rfl); (case hg => rfl); (case hr => exact tH); intro gb220 hg w6 hbox hb; refine qM4 (bQT tB hb) hbox (tZ w hg) (tZ w hg) ?_; clear HB; intro HB BK220 GW220 GE220; clear hb hbox hg) | (go_at_call 76; (with_reducible refine (impl_product.calls k a1 a2 t221 _ A4.out).mono ?_); rintro e w' ⟨rfl, ⟨nd, rfl⟩⟩; (try exact tW); have hcz7_0 : w6.cell? ⟨gb220, 0, none⟩ = some (.int .i64 a0_0) := (kQC BK220.out 0).trans rfl; have hcz7_1 : w6.cell? ⟨gb220, 1, none⟩ = some (.int .i64 a0_1) := (kQC BK220.out 1).trans rfl; have hfz7_0 := kQF BK220.out 0; have hfz7_1 := kQF BK220.out 1) | (go_at_call 75; (with_reducible refine (impl_restOf.calls k t221 a0_1 t222 _ A5.out).mono ?_); rintro e w' ⟨rfl, ⟨nd, rfl⟩⟩; (try exact tW)))
 repeat (go_quiet (first | ((with_reducible refine gQd (N := 3) rfl ?_); refine xQe ?hg (N := 3) ?hd (cs := #[.int .i64 a0_0, .int .i64 a0_1]) (t := 27) ?hr ?_; (case hd => rfl); (case hg => rfl); (case hr => exact tH); intro gb220 hg w6 hbox hb; refine qM4 (bQT tB hb) hbox (tZ w hg) (tZ w hg) ?_; clear HB; intro HB BK220 GW220 GE220; clear hb hbox hg) | (go_at_call 76; (with_reducible refine (impl_product.calls k a1 a2 t221 _ A4.out).mono ?_); rintro e w' ⟨rfl, ⟨nd, rfl⟩⟩; (try exact tW); have hcz7_0 : w6.cell? ⟨gb220, 0, none⟩ = some (.int .i64 a0_0) := (kQC BK220.out 0).trans rfl; have hcz7_1 : w6.cell? ⟨gb220, 1, none⟩ = some (.int .i64 a0_1) := (kQC BK220.out 1).trans rfl; have hfz7_0 := kQF BK220.out 0; have hfz7_1 := kQF BK220.out 1) | (go_at_call 75; (with_reducible refine (impl_restOf.calls k t221 a0_1 t222 _ A5.out).mono ?_); rintro e w' ⟨rfl, ⟨nd, rfl⟩⟩; (try exact tW))); try go_wp2_with (first | ((with_reducible refine gQd (N := 3) rfl ?_); refine xQe ?hg (N := 3) ?hd (cs := #[.int .i64 a0_0, .int .i64 a0_1]) (t := 27) ?hr ?_; (case hd => rfl); (case hg => rfl); (case hr => exact tH); intro gb220 hg w6 hbox hb; refine qM4 (bQT tB hb) hbox (tZ w hg) (tZ w hg) ?_; clear HB; intro HB BK220 GW220 GE220; clear hb hbox hg) | (go_at_call 76; (with_reducible refine (impl_product.calls k a1 a2 t221 _ A4.out).mono ?_); rintro e w' ⟨rfl, ⟨nd, rfl⟩⟩; (try exact tW); have hcz7_0 : w6.cell? ⟨gb220, 0, none⟩ = some (.int .i64 a0_0) := (kQC BK220.out 0).trans rfl; have hcz7_1 : w6.cell? ⟨gb220, 1, none⟩ = some (.int .i64 a0_1) := (kQC BK220.out 1).trans rfl; have hfz7_0 := kQF BK220.out 0; have hfz7_1 := kQF BK220.out 1) | (go_at_call 75; (with_reducible refine (impl_restOf.calls k t221 a0_1 t222 _ A5.out).mono ?_); rintro e w' ⟨rfl, ⟨nd, rfl⟩⟩; (try exact tW))))
 go_ret
 exact ⟨tE, tB⟩
end Go.Proofs.Ytpigghpimgkilaa.P
