/- Functions of the program and what they tell, as the printing program wrote it. -/
import Derived.Test.YtbgbblgdbcjibaaPx0
import Derived.Test.YtbgbblgdbcjibaaPx1
import Derived.Test.YtbgbblgdbcjibaaPx4
import Derived.Test.YtbgbblgdbcjibaaPx9
import Derived.Test.YtbgbblgdbcjibaaPx14
namespace Go.Proofs.Ytbgbblgdbcjibaa.P
open Go.Shelf Go.RowKit Go.Proofs.YtbgbblgdbcjibaaW.PrintWords Go.Proofs.YtbgbblgdbcjibaaW.PrintLast Go.Proofs.YtbgbblgdbcjibaaW.PrintMore
attribute [local go_sem] max2_int min2_int max_two min_two max_three min_three max_four min_four
set_option linter.unusedVariables false
set_option linter.unusedSimpArgs false
set_option maxHeartbeats 8000000
set_option maxRecDepth 100000
def slices_DeleteFunc_int64_int64_AT_impl_SubfieldIn_1.l0 : Nat → List Int → Int → Int → Int → Int → Int → Option (List Int)
  | 0, _, _, _, _, _, _ => none
  | k + 1, x0, x5, x6, x49000, x49001, x50000 => if x6 < (x0.length : Int) then (if 0 ≤ x6 then ((impl_SubfieldIn_1.f k (rd x0 x6) x49000 x49001 x50000).bind fun t223 => (if t223 = true then (slices_DeleteFunc_int64_int64_AT_impl_SubfieldIn_1.l0 k x0 x5 (wrap64 (x6 + 1)) x49000 x49001 x50000) else (if 0 ≤ x5 then (if x5 < (x0.length : Int) then (slices_DeleteFunc_int64_int64_AT_impl_SubfieldIn_1.l0 k (x0.set (x5 : Int).toNat (rd x0 x6)) (wrap64 (x5 + 1)) (wrap64 (x6 + 1)) x49000 x49001 x50000) else (none)) else (none)))) else (none)) else (if 0 ≤ x5 then (if x5 ≤ (x0.length : Int) then (some ((clrEnd x0 (x5 : Int).toNat).take (x5 : Int).toNat)) else (none)) else (none))
def slices_DeleteFunc_int64_int64_AT_impl_SubfieldIn_1.f (k : Nat) (l0 : List Int) (a1_0 : Int) (a1_1 : Int) (a1_2 : Int) : Option (List Int) := (slices_IndexFunc_int64_int64_AT_impl_SubfieldIn_1.f k l0 a1_0 a1_1 a1_2).bind fun t221 => (if t221 = (-1) then (some l0) else (slices_DeleteFunc_int64_int64_AT_impl_SubfieldIn_1.l0 k l0 t221 (wrap64 (t221 + 1)) a1_0 a1_1 a1_2))
theorem slices_DeleteFunc_int64_int64_AT_impl_SubfieldIn_1.mono_l : ∀ k, (∀ y0 y1 y2 y3 y4 y5, LeO (slices_DeleteFunc_int64_int64_AT_impl_SubfieldIn_1.l0 k y0 y1 y2 y3 y4 y5) (slices_DeleteFunc_int64_int64_AT_impl_SubfieldIn_1.l0 (k + 1) y0 y1 y2 y3 y4 y5))
 | 0 => fun _ _ _ _ _ _ r h => by simp [slices_DeleteFunc_int64_int64_AT_impl_SubfieldIn_1.l0] at h
 | k + 1 => by
  have ih0 := slices_DeleteFunc_int64_int64_AT_impl_SubfieldIn_1.mono_l k
  ·intro y0 y1 y2 y3 y4 y5
   unfold slices_DeleteFunc_int64_int64_AT_impl_SubfieldIn_1.l0
   repeat' first
   | (with_reducible first | apply ih0 | apply impl_SubfieldIn_1.mono | apply slices_IndexFunc_int64_int64_AT_impl_SubfieldIn_1.mono | exact LeO.refl _ | exact LeO.none _ | refine LeO.ite ?_ ?_ | refine LeO.bind ?_ (fun _ => ?_))
   | exact LeO.none _
   | refine LeO.ite ?_ ?_
   | refine LeO.bind ?_ (fun _ => ?_)
theorem slices_DeleteFunc_int64_int64_AT_impl_SubfieldIn_1.mono : ∀ a0 a1 a2 a3 k, LeO (slices_DeleteFunc_int64_int64_AT_impl_SubfieldIn_1.f k a0 a1 a2 a3) (slices_DeleteFunc_int64_int64_AT_impl_SubfieldIn_1.f (k + 1) a0 a1 a2 a3) := by
 intro a0 a1 a2 a3 k
 have ih0 := slices_DeleteFunc_int64_int64_AT_impl_SubfieldIn_1.mono_l k
 unfold slices_DeleteFunc_int64_int64_AT_impl_SubfieldIn_1.f
 repeat' first
  | (with_reducible first | apply ih0 | apply impl_SubfieldIn_1.mono | apply slices_IndexFunc_int64_int64_AT_impl_SubfieldIn_1.mono | exact LeO.refl _ | exact LeO.none _ | refine LeO.ite ?_ ?_ | refine LeO.bind ?_ (fun _ => ?_))
  | exact LeO.none _
  | refine LeO.ite ?_ ?_
  | refine LeO.bind ?_ (fun _ => ?_)
theorem slices_DeleteFunc_int64_int64_AT_impl_SubfieldIn_1.calls (k : Nat) (P0_ : Nat → Prop) (u9000_ : Value) (l0 : List Int) (g1_0 : Addr) (g1_1 : Addr) (a1_0 : Int) (a1_1 : Int) (a1_2 : Int) (r : List Int) (w0 w : World) (hB : Below w0.heap.size w0 w) (ho0 : Kd.R (Kd.int .i64) 2 w w0.heap.size P0_ u9000_ l0) (hb1_0 : AtC w g1_0 [.int .i64 a1_0, .int .i64 a1_1]) (hn1_0 : ¬ (fun k_ => P0_ k_) g1_0.block) (hb1_1 : AtC w g1_1 [.int .i64 a1_2]) (hn1_1 : ¬ (fun k_ => P0_ k_) g1_1.block) (h : slices_DeleteFunc_int64_int64_AT_impl_SubfieldIn_1.f k l0 a1_0 a1_1 a1_2 = some r) :
 Calls Try.prog 39 #[u9000_, .func (.func 41) #[] #[.pointer (some g1_0), .pointer (some g1_1)]] w fun e w' => ∃ v0_ : Value, e = .returned (v0_) ∧ Kd.R (Kd.int .i64) 2 w' w0.heap.size (fun k_ => (P0_ k_ ∨ w.heap.size ≤ k_)) v0_ r ∧ Below w0.heap.size w0 w' ∧ Kept w w' (fun k_ => P0_ k_) := by
 have eg41 : ∀ (args_ : Array Value) (w_ : World), (callFunc 41 args_).run Try.prog w_ = .ok (.enter 41 args_) w_ := enters_of Try.func41 (by kernel_rfl) rfl
 have HO0 := Aq.mk (show Kd.R (Kd.int .i64) 2 w w0.heap.size (fun k_ => (P0_ k_ ∨ w.heap.size ≤ k_)) u9000_ l0 from Kd.R_mono ho0 (fun k_ hk => (.inl hk)))
 have BN48 := Aq.mk hn1_0
 clear hn1_0
 have BN49 := Aq.mk hn1_1
 clear hn1_1
 have BK48 := Aq.mk hb1_0
 clear hb1_0
 have BK49 := Aq.mk hb1_1
 clear hb1_1
 have HK := Aq.mk (Kept.refl w (fun k_ => P0_ k_))
 have HW0 := Aq.mk hB.size
 have HB := Aq.mk hB
 clear hB
 have H : ((slices_IndexFunc_int64_int64_AT_impl_SubfieldIn_1.f k l0 a1_0 a1_1 a1_2).bind fun t221 => (if t221 = (-1) then (some l0) else (slices_DeleteFunc_int64_int64_AT_impl_SubfieldIn_1.l0 k l0 t221 (wrap64 (t221 + 1)) a1_0 a1_1 a1_2))) = some r := h
 clear h
 obtain ⟨t221, A3, H⟩ := qBd H
 by_cases c4 : t221 = (-1)
 ·rw [if_pos c4] at H
  have c4b0 := beq_iff_eq.mpr c4
  have c4b1 := bne_eq_false_iff_eq.mpr c4
  clear c4
  obtain rfl := Option.some.inj H
  obtain ⟨Ao5, co5, eo5⟩ := Kd.R_slice HO0.out
  subst eo5
  go_enter Try.func39, Try.ntmps39
  go_wp2_with (first | ((with_reducible refine gQc (f := 49) rfl ?_); refine goesL_ (some 10) rfl rfl Try.func49 (by kernel_rfl) rfl #[.slice Ao5 l0.length co5, .func (.func 41) #[] #[.pointer (some g1_0), .pointer (some g1_1)]] rfl tL ?_; (with_reducible refine (slices_IndexFunc_int64_int64_AT_impl_SubfieldIn_1.calls k _ _ l0 (g1_0 : Addr) (g1_1 : Addr) a1_0 a1_1 a1_2 t221 _ ?s1 ?s2 ?s3 ?s4 A3.out).mono ?_); (case s1 => exact tC ((Kd.R_reads' HO0.out).2.2)); (case s2 => exact (Kd.R_reads' HO0.out).2.1); (case s3 => repeat (first | exact (AtC.kept BK48.out (by repeat (first | (with_reducible first | exact HK.out | apply Kept.alloc | apply Kept.drewN | apply Kept.drew) | exact HK.out)) BN48.out) | (with_reducible refine AtC.alloc ?_ _) | (with_reducible refine AtC.drewN ?_ _) | (with_reducible refine AtC.drew ?_))); (case s4 => repeat (first | exact (AtC.kept BK49.out (by repeat (first | (with_reducible first | exact HK.out | apply Kept.alloc | apply Kept.drewN | apply Kept.drew) | exact HK.out)) BN49.out) | (with_reducible refine AtC.alloc ?_ _) | (with_reducible refine AtC.drewN ?_ _) | (with_reducible refine AtC.drew ?_))); rintro e w6 ⟨rfl, hb⟩; refine ⟨_, rfl, ?_⟩; refine qM3 (Kd.R_below (tR HO0.out) hb) (Kept.below (S := (fun k_ => P0_ k_)) (by repeat (first | (with_reducible first | exact HK.out | apply Kept.alloc | apply Kept.drewN | apply Kept.drew) | exact HK.out)) hb) (bQT tB hb) ?_; clear HO0 HK HB; intro HO0 HK HB; (try clear hb); (try clear hb2); (try clear hk); (try clear hi)))
  go_ret
  exact ⟨_, tE, tR HO0.out, tB, by repeat (first | (with_reducible first | exact HK.out | apply Kept.alloc | apply Kept.drewN | apply Kept.drew) | exact HK.out)⟩
 rw [if_neg c4] at H
 have c4b0 := beq_eq_false_iff_ne.mpr c4
 have c4b1 := bne_iff_ne.mpr c4
 replace H' := Aq.mk H
 clear H
 obtain ⟨Ao7, co7, eo7⟩ := Kd.R_slice HO0.out
 subst eo7
 go_enter Try.func39, Try.ntmps39
 go_wp2_with (first | ((with_reducible refine gQc (f := 49) rfl ?_); refine goesL_ (some 10) rfl rfl Try.func49 (by kernel_rfl) rfl #[.slice Ao7 l0.length co7, .func (.func 41) #[] #[.pointer (some g1_0), .pointer (some g1_1)]] rfl tL ?_; (with_reducible refine (slices_IndexFunc_int64_int64_AT_impl_SubfieldIn_1.calls k _ _ l0 (g1_0 : Addr) (g1_1 : Addr) a1_0 a1_1 a1_2 t221 _ ?s1 ?s2 ?s3 ?s4 A3.out).mono ?_); (case s1 => exact tC ((Kd.R_reads' HO0.out).2.2)); (case s2 => exact (Kd.R_reads' HO0.out).2.1); (case s3 => repeat (first | exact (AtC.kept BK48.out (by repeat (first | (with_reducible first | exact HK.out | apply Kept.alloc | apply Kept.drewN | apply Kept.drew) | exact HK.out)) BN48.out) | (with_reducible refine AtC.alloc ?_ _) | (with_reducible refine AtC.drewN ?_ _) | (with_reducible refine AtC.drew ?_))); (case s4 => repeat (first | exact (AtC.kept BK49.out (by repeat (first | (with_reducible first | exact HK.out | apply Kept.alloc | apply Kept.drewN | apply Kept.drew) | exact HK.out)) BN49.out) | (with_reducible refine AtC.alloc ?_ _) | (with_reducible refine AtC.drewN ?_ _) | (with_reducible refine AtC.drew ?_))); rintro e w8 ⟨rfl, hb⟩; refine ⟨_, rfl, ?_⟩; refine qM3 (Kd.R_below (tR HO0.out) hb) (Kept.below (S := (fun k_ => P0_ k_)) (by repeat (first | (with_reducible first | exact HK.out | apply Kept.alloc | apply Kept.drewN | apply Kept.drew) | exact HK.out)) hb) (bQT tB hb) ?_; clear HO0 HK HB; intro HO0 HK HB; (try clear hb); (try clear hb2); (try clear hk); (try clear hi)))
 go_loopg [5, 6] k (fun kq v5 v6 w' => ∃ (x0_1 : List Int) (x5_1 : Int) (x6_1 : Int), v5 = .int .i64 x5_1 ∧ v6 = .int .i64 x6_1 ∧ Aq (slices_DeleteFunc_int64_int64_AT_impl_SubfieldIn_1.l0 kq x0_1 x5_1 x6_1 a1_0 a1_1 a1_2 = some r) ∧ Aq (kq ≤ k) ∧ Aq (Kd.R (Kd.int .i64) 2 w' w0.heap.size (fun k_ => (P0_ k_ ∨ w.heap.size ≤ k_)) (.slice Ao7 l0.length co7) x0_1) ∧ Aq (Kept w w' (fun k_ => P0_ k_)) ∧ Aq (Below w0.heap.size w0 w'))
 case atStart => exact ⟨(l0), (t221), (wrap64 (t221 + 1)), tS, tS, H', ⟨Nat.le_refl _⟩, ⟨tR HO0.out⟩, ⟨by repeat (first | (with_reducible first | exact HK.out | apply Kept.alloc | apply Kept.drewN | apply Kept.drew) | exact HK.out)⟩, ⟨tB⟩⟩
 clear H'
 try clear c4
 try clear c4b0
 try clear c4b1
 obtain ⟨x0_1, x5_1, x6_1, rfl, rfl, HA, HK1, HO_0, HK, HB⟩ := hrel
 have hl0_1 := (Kd.R_reads' HO_0.out).1
 rw [hl0_1] at HO_0
 (try simp only [hl0_1])
 cases gk with
 | zero => exact absurd HA.out (by simp [slices_DeleteFunc_int64_int64_AT_impl_SubfieldIn_1.l0])
 | succ k1 =>
  have H := HA.out
  clear HA
  simp only [slices_DeleteFunc_int64_int64_AT_impl_SubfieldIn_1.l0] at H
  by_cases c9 : x6_1 < (x0_1.length : Int)
  rotate_left
  ·rw [if_neg c9] at H
   have c9b0 := decide_eq_false c9
   clear c9
   (try (have c9b0z := c9b0; simp only [hl0_1] at c9b0z))
   by_cases c20 : 0 ≤ x5_1
   rotate_left
   ·rw [if_neg c20] at H
    exact absurd H (by simp)
   rw [if_pos c20] at H
   have c20b0 := eq_true c20
   have c20b1 := decide_eq_true c20
   clear c20
   (try (have c20b0z := c20b0; simp only [hl0_1] at c20b0z))
   (try (have c20b1z := c20b1; simp only [hl0_1] at c20b1z))
   by_cases c21 : x5_1 ≤ (x0_1.length : Int)
   rotate_left
   ·rw [if_neg c21] at H
    exact absurd H (by simp)
   rw [if_pos c21] at H
   have c21b0 := eq_true c21
   have c21b1 := decide_eq_true c21
   clear c21
   (try (have c21b0z := c21b0; simp only [hl0_1] at c21b0z))
   (try (have c21b1z := c21b1; simp only [hl0_1] at c21b1z))
   obtain ⟨y225, hy225⟩ : ∃ y_ : List Int, y_ = (x0_1.drop (x5_1 : Int).toNat) := ⟨_, rfl⟩
   replace H : (some ((clrEnd x0_1 (x5_1 : Int).toNat).take (x5_1 : Int).toNat)) = some r := by first | (rw [hy225]; with_reducible exact H) | (have H2_ := (Option.bind_some _ _).symm.trans H; rw [hy225]; with_reducible exact H2_) | (have H2_ := (Option.bind_some _ _).symm.trans H; with_reducible exact H2_) | with_reducible exact H | (rw [hy225]; exact H) | exact H
   have Ny225 := Aq.mk hy225
   clear hy225
   obtain ⟨y229, hy229⟩ : ∃ y_ : List Int, y_ = (clrEnd x0_1 (x5_1 : Int).toNat) := ⟨_, rfl⟩
   replace H : (some (y229.take (x5_1 : Int).toNat)) = some r := by first | (rw [hy229]; with_reducible exact H) | (have H2_ := (Option.bind_some _ _).symm.trans H; rw [hy229]; with_reducible exact H2_) | (have H2_ := (Option.bind_some _ _).symm.trans H; with_reducible exact H2_) | with_reducible exact H | (rw [hy229]; exact H) | exact H
   have Ny229 := Aq.mk hy229
   clear hy229
   have c22b0 := eq_true (of_decide_eq_true tA : x5_1 ≤ (x0_1.length : Int))
   obtain ⟨y230, hy230⟩ : ∃ y_ : List Int, y_ = (y229.take (x5_1 : Int).toNat) := ⟨_, rfl⟩
   replace H : (some y230) = some r := by first | (rw [hy230]; with_reducible exact H) | (have H2_ := (Option.bind_some _ _).symm.trans H; rw [hy230]; with_reducible exact H2_) | (have H2_ := (Option.bind_some _ _).symm.trans H; with_reducible exact H2_) | with_reducible exact H | (rw [hy230]; exact H) | exact H
   have Ny230 := Aq.mk hy230
   clear hy230
   obtain rfl := Option.some.inj H
   have q23 : (x5_1 : Int) ≤ ((x0_1.length : Int) : Int) := of_decide_eq_true tA
   obtain ⟨i023, hi023, _, hsz23, _⟩ := info_parts info2
   have hroom23 : x0_1.length ≤ co7 := (Kd.R_reads' HO_0.out).2.1
   have hC23 : Kd.C (Kd.int .i64) _ Ao7 x0_1.length x0_1 := (Kd.R_reads' HO_0.out).2.2
   have q023 : (0 : Int) ≤ (x5_1 : Int) := of_decide_eq_true tA
   have hcut23 := cut_from (P := Try.prog) 29 2 .i64 Try.underlying29 hi023 1 hsz23 Ao7 x0_1.length co7 x5_1 q023 q23
   have hr23 := Kd.C_drop (m := (x5_1 : Int).toNat) (c := co7) hC23 (by omega) hroom23
   obtain ⟨A23, hA23⟩ : ∃ A1, A1 = (if co7 = (x5_1 : Int).toNat then Ao7 else (Ao7 : Option Addr).map (·.add ((x5_1 : Int).toNat * 1))) := ⟨_, rfl⟩
   obtain ⟨c23, hc23⟩ : ∃ c1, c1 = co7 - (x5_1 : Int).toNat := ⟨_, rfl⟩
   have hy23 : y225.length = x0_1.length - (x5_1 : Int).toNat := (by rw [Ny225.out, List.length_drop] <;> omega)
   rw [show (x0_1).drop (x5_1 : Int).toNat = y225 from Ny225.out.symm] at hr23
   replace hr23 : Kd.C (Kd.int .i64) _ A23 y225.length y225 := (by rw [hA23]; exact hr23)
   rw [← hy23, ← hA23, ← hc23] at hcut23
   have HR228 := Aq.mk hr23
   have HC228 := Aq.mk (show y225.length ≤ c23 from by rw [hy23, hc23]; exact Nat.sub_le_sub_right hroom23 _)
   clear hr23 hC23 hroom23 hi023 hsz23 hc23
   have KY23 := Aq.mk hy23
   have KA23 := Aq.mk hA23
   clear hy23 hA23
   have KL23 := Aq.mk (show (x5_1 : Int).toNat ≤ x0_1.length from by omega)
   replace q23 := eq_true q23
   go_wp2_with (first | ((with_reducible refine gate_clear rfl ?_); refine R_clear rfl (.tmp 38) 29 rfl Try.underlying29 (ik := .i64) info2 rfl rfl KA23.out KY23.out ((Kd.R_reads' HO_0.out).2.1) (tR HO_0.out) tB (Nat.le_refl _) ?_; intro w24 ho hb hg; rw [← Ny229.out] at ho; refine qM3 ho hb (Kept.of_grown (S := (fun k_ => P0_ k_)) hg (by repeat (first | (with_reducible first | exact HK.out | apply Kept.alloc | apply Kept.drewN | apply Kept.drew) | exact HK.out)) (fun k_ e_ => (HO_0.out.1 k_ e_))) ?_; clear HO_0 HB HK; intro HO_0 HB HK; clear ho hb hg; have hlx25 := (Kd.R_reads' HO_0.out).1; have q25 : (x5_1 : Int) ≤ ((x0_1.length : Int) : Int) := of_decide_eq_true tA; obtain ⟨i025, hi025, _, hsz25, _⟩ := info_parts info2; have hcut25 := cut_to (P := Try.prog) 29 2 .i64 Try.underlying29 hi025 Ao7 x0_1.length co7 x5_1 (of_decide_eq_true tA) q25 (Kd.R_reads' HO_0.out).2.1; have hr25 := Kd.R_take (m := (x5_1 : Int).toNat) HO_0.out (by omega); have hy25 : y230.length = (x5_1 : Int).toNat := (by rw [Ny230.out, List.length_take]; omega); rw [← Ny230.out] at hr25; rw [← hy25] at hr25 hcut25; clear hy25 hi025 hsz25 HO_0 hlx25; have HO232 := Aq.mk hr25; clear hr25; replace q25 := eq_true q25))
   go_ret
   exact ⟨_, tE, tR HO232.out, tB, by repeat (first | (with_reducible first | exact HK.out | apply Kept.alloc | apply Kept.drewN | apply Kept.drew) | exact HK.out)⟩
  rw [if_pos c9] at H
  have c9b0 := decide_eq_true c9
  clear c9
  (try (have c9b0z := c9b0; simp only [hl0_1] at c9b0z))
  by_cases c10 : 0 ≤ x6_1
  rotate_left
  ·rw [if_neg c10] at H
   exact absurd H (by simp)
  rw [if_pos c10] at H
  have c10b0 := decide_eq_true c10
  clear c10
  (try (have c10b0z := c10b0; simp only [hl0_1] at c10b0z))
  obtain ⟨t223, A11, H⟩ := qBd H
  by_cases c12 : t223 = true
  ·subst c12
   rw [if_pos rfl] at H
   replace H' := Aq.mk H
   clear H
   have p222 : 0 ≤ (x6_1 : Int) := of_decide_eq_true tA
   have q222 : x6_1 < (x0_1.length : Int) := of_decide_eq_true tA
   obtain ⟨ad222, e222, hx222_0⟩ := Kd.at_int (Kd.R_reads' HO_0.out).2.2 x6_1 p222 q222
   cases e222
   replace p222 := eq_true p222
   replace q222 := eq_true q222
   go_wp2_with (first | (go_at_fn 41; (with_reducible refine (impl_SubfieldIn_1.calls k1 (rd x0_1 x6_1) (g1_0 : Addr) a1_0 a1_1 (g1_1 : Addr) a1_2 true _ ?s1 ?s2 A11.out).mono ?_); (case s1 => repeat (first | exact (AtC.kept BK48.out (by repeat (first | (with_reducible first | exact HK.out | apply Kept.alloc | apply Kept.drewN | apply Kept.drew) | exact HK.out)) BN48.out) | (with_reducible refine AtC.alloc ?_ _) | (with_reducible refine AtC.drewN ?_ _) | (with_reducible refine AtC.drew ?_))); (case s2 => repeat (first | exact (AtC.kept BK49.out (by repeat (first | (with_reducible first | exact HK.out | apply Kept.alloc | apply Kept.drewN | apply Kept.drew) | exact HK.out)) BN49.out) | (with_reducible refine AtC.alloc ?_ _) | (with_reducible refine AtC.drewN ?_ _) | (with_reducible refine AtC.drew ?_))); rintro e w13 ⟨rfl, hb⟩; refine qM3 (Kd.R_below (tR HO_0.out) hb) (Kept.below (S := (fun k_ => P0_ k_)) (by repeat (first | (with_reducible first | exact HK.out | apply Kept.alloc | apply Kept.drewN | apply Kept.drew) | exact HK.out)) hb) (bQT tB hb) ?_; clear HO_0 HK HB; intro HO_0 HK HB; (try clear hb); (try clear hb2); (try clear hk); (try clear hi)))
   (try simp only [← hl0_1])
   go_roundg k1
   case measure => have := HK1.out; omega
   case rel => exact ⟨(x0_1), (x5_1), (wrap64 (x6_1 + 1)), tS, tS, H', ⟨by have := HK1.out; omega⟩, ⟨by (try simp only [hl0_1]); (with_reducible repeat (first | apply Kd.RqA | apply Kd.RqN | apply Kd.RqD)); exact HO_0.out⟩, ⟨by repeat (first | (with_reducible first | exact HK.out | apply Kept.alloc | apply Kept.drewN | apply Kept.drew) | exact HK.out)⟩, ⟨tB⟩⟩
  replace c12 := Bool.eq_false_iff.mpr c12
  subst c12
  rw [if_neg (show ¬ (false = true) by decide)] at H
  by_cases c14 : 0 ≤ x5_1
  rotate_left
  ·rw [if_neg c14] at H
   exact absurd H (by simp)
  rw [if_pos c14] at H
  have c14b0 := decide_eq_true c14
  clear c14
  (try (have c14b0z := c14b0; simp only [hl0_1] at c14b0z))
  by_cases c15 : x5_1 < (x0_1.length : Int)
  rotate_left
  ·rw [if_neg c15] at H
   exact absurd H (by simp)
  rw [if_pos c15] at H
  have c15b0 := decide_eq_true c15
  clear c15
  (try (have c15b0z := c15b0; simp only [hl0_1] at c15b0z))
  obtain ⟨y224, hy224⟩ : ∃ y_ : List Int, y_ = (x0_1.set (x5_1 : Int).toNat (rd x0_1 x6_1)) := ⟨_, rfl⟩
  replace H : (slices_DeleteFunc_int64_int64_AT_impl_SubfieldIn_1.l0 k1 y224 (wrap64 (x5_1 + 1)) (wrap64 (x6_1 + 1)) a1_0 a1_1 a1_2) = some r := by first | (rw [hy224]; with_reducible exact H) | (have H2_ := (Option.bind_some _ _).symm.trans H; rw [hy224]; with_reducible exact H2_) | (have H2_ := (Option.bind_some _ _).symm.trans H; with_reducible exact H2_) | with_reducible exact H | (rw [hy224]; exact H) | exact H
  have Ny224 := Aq.mk hy224
  clear hy224
  replace H' := Aq.mk H
  clear H
  have p222 : 0 ≤ (x6_1 : Int) := of_decide_eq_true tA
  have q222 : x6_1 < (x0_1.length : Int) := of_decide_eq_true tA
  obtain ⟨ad222, e222, hx222_0⟩ := Kd.at_int (Kd.R_reads' HO_0.out).2.2 x6_1 p222 q222
  cases e222
  replace p222 := eq_true p222
  replace q222 := eq_true q222
  go_wp2_with (first | (go_at_fn 41; (with_reducible refine (impl_SubfieldIn_1.calls k1 (rd x0_1 x6_1) (g1_0 : Addr) a1_0 a1_1 (g1_1 : Addr) a1_2 false _ ?s1 ?s2 A11.out).mono ?_); (case s1 => repeat (first | exact (AtC.kept BK48.out (by repeat (first | (with_reducible first | exact HK.out | apply Kept.alloc | apply Kept.drewN | apply Kept.drew) | exact HK.out)) BN48.out) | (with_reducible refine AtC.alloc ?_ _) | (with_reducible refine AtC.drewN ?_ _) | (with_reducible refine AtC.drew ?_))); (case s2 => repeat (first | exact (AtC.kept BK49.out (by repeat (first | (with_reducible first | exact HK.out | apply Kept.alloc | apply Kept.drewN | apply Kept.drew) | exact HK.out)) BN49.out) | (with_reducible refine AtC.alloc ?_ _) | (with_reducible refine AtC.drewN ?_ _) | (with_reducible refine AtC.drew ?_))); rintro e w17 ⟨rfl, hb⟩; refine qM3 (Kd.R_below (tR HO_0.out) hb) (Kept.below (S := (fun k_ => P0_ k_)) (by repeat (first | (with_reducible first | exact HK.out | apply Kept.alloc | apply Kept.drewN | apply Kept.drew) | exact HK.out)) hb) (bQT tB hb) ?_; clear HO_0 HK HB; intro HO_0 HK HB; (try clear hb); (try clear hb2); (try clear hk); (try clear hi); have p16 : 0 ≤ (x5_1 : Int) := of_decide_eq_true tA; have q16 : (x5_1 : Int) < ((x0_1.length : Int) : Int) := of_decide_eq_true tA; obtain ⟨go16, co16, eo16, gb16, gl16, cl16, HG16⟩ := Kd.R_form HO_0.out (by omega); (first | cases eo16 | (injection eo16 with ea_ en_ ec_; (first | subst ea_ | (injection ea_ with ea_; subst ea_)); subst ec_; clear en_)); have GB16 := Aq.mk gb16; have GG16 := Aq.mk HG16; clear gb16 gl16 HG16; have HMgo16 := Aq.mk (show (P0_ go16 ∨ w.heap.size ≤ go16) from (HO_0.out.1 _ rfl)); (first | simp only [add_plain] at hx222_0 | skip); obtain ⟨hx16_0, hf16_0⟩ := Kd.R_celln 0 HO_0.out (x5_1 : Int) p16 q16; replace p16 := eq_true p16; replace q16 := eq_true q16; obtain ⟨hy18_, hz18_⟩ := Kd.R_celln 0 HO_0.out (x5_1 : Int) (of_decide_eq_true tA) (of_decide_eq_true tA); have HP18 := Kd.R_putg HO_0.out (x5_1 : Int) (rd x0_1 x6_1)) | ((with_reducible refine gate_store (t := 2) (p := 33) rfl ?_); refine store_event (t := 2) (p := 33) (v := ?vo_w19) (w1 := (w17.setCell ⟨go16, (x5_1 : Int).toNat, none⟩ (.int .i64 (rd x0_1 x6_1)))) ?hg ?ho ?hn ?hr ?_; (case ho => rfl); (case hg => rfl); (case hn => rfl); (case hr => exact tH); intro w19 hw; have hg : w17.grownBy w19 (some go16) := (by rw [hw]; exact HP18.2); have hp_ : Kd.R (Kd.int .i64) 2 w19 w0.heap.size (fun k_ => (P0_ k_ ∨ w.heap.size ≤ k_)) (.slice (some ⟨go16, 0, none⟩) x0_1.length co7) y224 := (by rw [hw, Ny224.out]; exact HP18.1); clear HP18; refine qM3 hp_ ((by rw [hw]; exact bQS (HB.out) GB16.out : Below w0.heap.size w0 w19)) (Kept.of_grown (S := (fun k_ => P0_ k_)) hg (by repeat (first | (with_reducible first | exact HK.out | apply Kept.alloc | apply Kept.drewN | apply Kept.drew) | exact HK.out)) (fun k_ e_ => (HO_0.out.1 k_ e_))) ?_; clear HO_0 HB HK; intro HO_0 HB HK; clear hg hw hp_))
  (try simp only [← hl0_1])
  go_roundg k1
  case measure => have := HK1.out; omega
  case rel => exact ⟨(y224), (wrap64 (x5_1 + 1)), (wrap64 (x6_1 + 1)), tS, tS, H', ⟨by have := HK1.out; omega⟩, ⟨by (try simp only [hl0_1]); (with_reducible repeat (first | apply Kd.RqA | apply Kd.RqN | apply Kd.RqD)); exact HO_0.out⟩, ⟨by repeat (first | (with_reducible first | exact HK.out | apply Kept.alloc | apply Kept.drewN | apply Kept.drew) | exact HK.out)⟩, ⟨tB⟩⟩
def impl_SubfieldIn.f (k : Nat) (a0_0 : Int) (a0_1 : Int) (a1 : Int) : Option (List Int × Int) := (impl_within.f a1 1 a0_0).bind fun t235 => ((impl_Field_code.f k a0_0 a0_1 t235 ([] : List Int)).bind fun t236 => (if t236 = 0 then ((impl_Field_all.f k a0_0 a0_1).bind fun t237 => ((slices_DeleteFunc_int64_int64_AT_impl_SubfieldIn_1.f k t237 a0_0 a0_1 a1).bind fun t240 => (some (t240, 0)))) else (some (([] : List Int), t236))))
theorem impl_SubfieldIn.mono : ∀ a0 a1 a2 k, LeO (impl_SubfieldIn.f k a0 a1 a2) (impl_SubfieldIn.f (k + 1) a0 a1 a2) := by
 intro a0 a1 a2 k
 unfold impl_SubfieldIn.f
 repeat' first
  | (with_reducible first | apply impl_Field_all.mono | apply impl_Field_code.mono | apply slices_DeleteFunc_int64_int64_AT_impl_SubfieldIn_1.mono | exact LeO.refl _ | exact LeO.none _ | refine LeO.ite ?_ ?_ | refine LeO.bind ?_ (fun _ => ?_))
  | exact LeO.none _
  | refine LeO.ite ?_ ?_
  | refine LeO.bind ?_ (fun _ => ?_)
theorem impl_SubfieldIn.calls (k : Nat) (a0_0 : Int) (a0_1 : Int) (a1 : Int) (r1 : List Int) (r2 : Int) (w : World) (h : impl_SubfieldIn.f k a0_0 a0_1 a1 = some (r1, r2)) :
 Calls Try.prog 13 #[.agg #[.int .i64 a0_0, .int .i64 a0_1], .int .i64 a1] w fun e w' => ∃ v0_ : Value, e = .returned (.tuple #[v0_, .int .i64 r2]) ∧ Kd.R (Kd.int .i64) 2 w' w.heap.size (fun _ => True) v0_ r1 ∧ Below w.heap.size w w' := by
 have hu26 := Try.underlying26
 have HB := Aq.mk (Below.refl w.heap.size w)
 have H : ((impl_within.f a1 1 a0_0).bind fun t235 => ((impl_Field_code.f k a0_0 a0_1 t235 ([] : List Int)).bind fun t236 => (if t236 = 0 then ((impl_Field_all.f k a0_0 a0_1).bind fun t237 => ((slices_DeleteFunc_int64_int64_AT_impl_SubfieldIn_1.f k t237 a0_0 a0_1 a1).bind fun t240 => (some (t240, 0)))) else (some (([] : List Int), t236))))) = some (r1, r2) := h
 clear h
 obtain ⟨t235, A3, H⟩ := qBd H
 obtain ⟨t236, A4, H⟩ := qBd H
 by_cases c5 : t236 = 0
 rotate_left
 ·rw [if_neg c5] at H
  have c5b0 := beq_eq_false_iff_ne.mpr c5
  have c5b1 := bne_iff_ne.mpr c5
  simp only [Option.some.injEq, Prod.mk.injEq] at H
  obtain ⟨rfl, rfl⟩ := H
  go_enter Try.func13, Try.ntmps13
  try go_wp2_with (first | ((with_reducible refine gQd (N := 2) rfl ?_); refine xQe ?hg (N := 2) ?hd (cs := #[.int .i64 a0_0, .int .i64 a0_1]) (t := 26) ?hr ?_; (case hd => rfl); (case hg => rfl); (case hr => exact tH); intro gb233 hg w17 hbox hb; refine qM4 (bQT tB hb) hbox (tZ w hg) (tZ w hg) ?_; clear HB; intro HB BK233 GW233 GE233; clear hb hbox hg) | ((with_reducible refine gQd (N := 3) rfl ?_); refine xQe ?hg (N := 3) ?hd (cs := #[.int .i64 a1]) (t := 2) ?hr ?_; (case hd => rfl); (case hg => rfl); (case hr => exact tH); intro gb234 hg w18 hbox hb; refine qM7 (tQ BK233.out hb) (bQT tB hb) hbox (tZ w hg) (tZ w hg) ((by rw [hg]; exact Nat.ne_of_lt (blk_lt (g := gb233) (o := .cells #[.int .i64 a0_0, .int .i64 a0_1] 26 (0, 0)) (tG BK233.out)) : gb233 ≠ gb234)) ((by rw [hg]; exact Nat.ne_of_gt (blk_lt (g := gb233) (o := .cells #[.int .i64 a0_0, .int .i64 a0_1] 26 (0, 0)) (tG BK233.out)) : gb234 ≠ gb233)) ?_; clear BK233 HB; intro BK233 HB BK234 GW234 GE234 NB233_234 NB234_233; clear hb hbox hg))
  have n0_ := Aq.mk (kQD BK233.out)
  have n1_ := Aq.mk (kQD BK234.out)
  have n2_ := Aq.mk (bQ1 HB.out)
  clear BK233
  clear BK234
  clear HB
  have BK233 := n0_
  have BK234 := n1_
  have HB := n2_
  clear n0_ n1_ n2_
  refine start_ (n := 7) (S := fun w' => w'.cell? ⟨gb233, 0, none⟩ = some (.int .i64 a0_0) ∧ w'.cell? ⟨gb233, 1, none⟩ = some (.int .i64 a0_1) ∧ w'.cell? ⟨gb234, 0, none⟩ = some (.int .i64 a1)) (ds := []) #[false, false, false, false, false, false, false] (by kernel_rfl) rfl rfl ⟨(kQC BK233.out 0).trans rfl, (kQC BK233.out 1).trans rfl, (kQC BK234.out 0).trans rfl⟩ (fun hHeld => ?_)
  generalize w18.drew = w19 at BK233 BK234 HB hHeld ⊢
  refine tP0k 2 9 (bm 7 4) ?_
  refine tT3k 0 7 (bm 7 5) ?_
  refine tT3k 1 8 (bm 7 7) ?_
  refine tT3k 3 10 (bm 7 15) ?_
  refine one_ (i := 4) (N := some 11) (bm 7 31) rfl rfl (by kernel_rfl) (by decide) (fun K hK => ?_)
  refine goes_ Try.func38 (by kernel_rfl) rfl #[.int .i64 a1, .int .i64 1, .int .i64 a0_0] (by rfl) rfl rfl tL ?_
  with_reducible refine (impl_within.calls a1 1 a0_0 t235 _ A3.out).mono ?_
  rintro e w' ⟨rfl, ⟨nd, rfl⟩⟩
  refine ⟨_, rfl, ?_⟩
  refine hK.out _ _ ⟨(kQC BK233.out 0).trans rfl, (kQC BK233.out 1).trans rfl, (kQC BK234.out 0).trans rfl⟩ (fun hHeld => ?_)
  clear hK K
  refine tN 11 ?_
  refine one_ (i := 5) (N := some 12) (bm 7 63) rfl rfl (by kernel_rfl) (by decide) (fun K hK => ?_)
  refine goes_ Try.func32 (by kernel_rfl) rfl #[.agg #[.int .i64 a0_0, .int .i64 a0_1], .bool t235, .slice none 0 0] (by rfl) rfl rfl tL ?_
  refine (impl_Field_code.calls k a0_0 a0_1 t235 _ _ ([] : List Int) t236 _ ?s1 ?s2 A4.out).mono ?_
  (case s1 => exact Kd.C_nil _ _)
  (case s2 => exact Nat.le_refl _)
  rintro e w20 ⟨rfl, hb⟩
  refine ⟨_, rfl, ?_⟩
  have n0_ := Aq.mk (tQ BK233.out hb)
  have n1_ := Aq.mk (tQ BK234.out hb)
  have n2_ := Aq.mk (bQT tB hb)
  clear BK233
  clear BK234
  clear HB
  have BK233 := n0_
  have BK234 := n1_
  have HB := n2_
  clear n0_ n1_ n2_
  (try clear hb)
  (try clear hb2)
  (try clear hk)
  (try clear hi)
  refine hK.out _ _ ⟨(kQC BK233.out 0).trans rfl, (kQC BK233.out 1).trans rfl, (kQC BK234.out 0).trans rfl⟩ (fun hHeld => ?_)
  clear hK K
  refine tN 12 ?_
  refine tP0k 6 6 (bm 7 127) ?_
  refine done_ (by kernel_rfl) ?_
  try go_wp2
  go_ret2
  exact ⟨_, tE, by first | exact Kd.R_nil _ _ _ _ _ | exact Kd.N_nil _ _ _ _ _ | exact Kd.V_nil _ _ _ _ _ | exact Kd.Q_nil _ _ _ _ _ | exact Kd.S_nil _ _ _ _ _, tB⟩
 rw [if_pos c5] at H
 have c5b0 := beq_iff_eq.mpr c5
 have c5b1 := bne_eq_false_iff_eq.mpr c5
 clear c5
 obtain ⟨t237, A6, H⟩ := qBd H
 obtain ⟨t240, A7, H⟩ := qBd H
 simp only [Option.some.injEq, Prod.mk.injEq] at H
 obtain ⟨rfl, rfl⟩ := H
 go_enter Try.func13, Try.ntmps13
 try go_wp2_with (first | ((with_reducible refine gQd (N := 2) rfl ?_); refine xQe ?hg (N := 2) ?hd (cs := #[.int .i64 a0_0, .int .i64 a0_1]) (t := 26) ?hr ?_; (case hd => rfl); (case hg => rfl); (case hr => exact tH); intro gb233 hg w8 hbox hb; refine qM4 (bQT tB hb) hbox (tZ w hg) (tZ w hg) ?_; clear HB; intro HB BK233 GW233 GE233; clear hb hbox hg) | ((with_reducible refine gQd (N := 3) rfl ?_); refine xQe ?hg (N := 3) ?hd (cs := #[.int .i64 a1]) (t := 2) ?hr ?_; (case hd => rfl); (case hg => rfl); (case hr => exact tH); intro gb234 hg w9 hbox hb; refine qM7 (tQ BK233.out hb) (bQT tB hb) hbox (tZ w hg) (tZ w hg) ((by rw [hg]; exact Nat.ne_of_lt (blk_lt (g := gb233) (o := .cells #[.int .i64 a0_0, .int .i64 a0_1] 26 (0, 0)) (tG BK233.out)) : gb233 ≠ gb234)) ((by rw [hg]; exact Nat.ne_of_gt (blk_lt (g := gb233) (o := .cells #[.int .i64 a0_0, .int .i64 a0_1] 26 (0, 0)) (tG BK233.out)) : gb234 ≠ gb233)) ?_; clear BK233 HB; intro BK233 HB BK234 GW234 GE234 NB233_234 NB234_233; clear hb hbox hg))
 have n0_ := Aq.mk (kQD BK233.out)
 have n1_ := Aq.mk (kQD BK234.out)
 have n2_ := Aq.mk (bQ1 HB.out)
 clear BK233
 clear BK234
 clear HB
 have BK233 := n0_
 have BK234 := n1_
 have HB := n2_
 clear n0_ n1_ n2_
 refine start_ (n := 7) (S := fun w' => w'.cell? ⟨gb233, 0, none⟩ = some (.int .i64 a0_0) ∧ w'.cell? ⟨gb233, 1, none⟩ = some (.int .i64 a0_1) ∧ w'.cell? ⟨gb234, 0, none⟩ = some (.int .i64 a1)) (ds := []) #[false, false, false, false, false, false, false] (by kernel_rfl) rfl rfl ⟨(kQC BK233.out 0).trans rfl, (kQC BK233.out 1).trans rfl, (kQC BK234.out 0).trans rfl⟩ (fun hHeld => ?_)
 generalize w9.drew = w10 at BK233 BK234 HB hHeld ⊢
 refine tP0k 2 9 (bm 7 4) ?_
 refine tT3k 0 7 (bm 7 5) ?_
 refine tT3k 1 8 (bm 7 7) ?_
 refine tT3k 3 10 (bm 7 15) ?_
 refine one_ (i := 4) (N := some 11) (bm 7 31) rfl rfl (by kernel_rfl) (by decide) (fun K hK => ?_)
 refine goes_ Try.func38 (by kernel_rfl) rfl #[.int .i64 a1, .int .i64 1, .int .i64 a0_0] (by rfl) rfl rfl tL ?_
 with_reducible refine (impl_within.calls a1 1 a0_0 t235 _ A3.out).mono ?_
 rintro e w' ⟨rfl, ⟨nd, rfl⟩⟩
 refine ⟨_, rfl, ?_⟩
 refine hK.out _ _ ⟨(kQC BK233.out 0).trans rfl, (kQC BK233.out 1).trans rfl, (kQC BK234.out 0).trans rfl⟩ (fun hHeld => ?_)
 clear hK K
 refine tN 11 ?_
 refine one_ (i := 5) (N := some 12) (bm 7 63) rfl rfl (by kernel_rfl) (by decide) (fun K hK => ?_)
 refine goes_ Try.func32 (by kernel_rfl) rfl #[.agg #[.int .i64 a0_0, .int .i64 a0_1], .bool t235, .slice none 0 0] (by rfl) rfl rfl tL ?_
 refine (impl_Field_code.calls k a0_0 a0_1 t235 _ _ ([] : List Int) t236 _ ?s1 ?s2 A4.out).mono ?_
 (case s1 => exact Kd.C_nil _ _)
 (case s2 => exact Nat.le_refl _)
 rintro e w11 ⟨rfl, hb⟩
 refine ⟨_, rfl, ?_⟩
 have n0_ := Aq.mk (tQ BK233.out hb)
 have n1_ := Aq.mk (tQ BK234.out hb)
 have n2_ := Aq.mk (bQT tB hb)
 clear BK233
 clear BK234
 clear HB
 have BK233 := n0_
 have BK234 := n1_
 have HB := n2_
 clear n0_ n1_ n2_
 (try clear hb)
 (try clear hb2)
 (try clear hk)
 (try clear hi)
 refine hK.out _ _ ⟨(kQC BK233.out 0).trans rfl, (kQC BK233.out 1).trans rfl, (kQC BK234.out 0).trans rfl⟩ (fun hHeld => ?_)
 clear hK K
 refine tN 12 ?_
 refine tP0k 6 6 (bm 7 127) ?_
 refine done_ (by kernel_rfl) ?_
 have hnb12 := NB233_234.out
 have hnc12 := NB234_233.out
 have hcz13_0 : w11.cell? ⟨gb233, 0, none⟩ = some (.int .i64 a0_0) := (kQC BK233.out 0).trans rfl
 have hcz13_1 : w11.cell? ⟨gb233, 1, none⟩ = some (.int .i64 a0_1) := (kQC BK233.out 1).trans rfl
 have hfz13_0 := kQF BK233.out 0
 have hfz13_1 := kQF BK233.out 1
 try go_wp2_with (first | ((with_reducible refine gQc (f := 40) rfl ?_); refine goesL_ (some 17) rfl rfl Try.func40 (by kernel_rfl) rfl #[.agg #[.int .i64 a0_0, .int .i64 a0_1]] rfl tL ?_; (with_reducible refine (impl_Field_all.calls k a0_0 a0_1 t237 _ A6.out).mono ?_); rintro e w14 ⟨v238, rfl, ho0, hb⟩; refine ⟨_, rfl, ?_⟩; refine qM4 (Kd.R_lower (Kd.R_newB ho0 (g := gb234) (o := .cells #[.int .i64 a1] 2 (0, 0)) (tG BK234.out)) (bQZ tB)) (tQ BK233.out hb) (tQ BK234.out hb) (bQT tB hb) ?_; clear BK233 BK234 HB; intro HO239 BK233 BK234 HB; (try clear hb); (try clear hb2); (try clear hk); (try clear hi); (try clear ho0); obtain ⟨Ao15, co15, eo15⟩ := Kd.R_slice HO239.out; subst eo15) | ((with_reducible refine gQc (f := 39) rfl ?_); refine goesL_ (some 19) rfl rfl Try.func39 (by kernel_rfl) rfl #[.slice Ao15 t237.length co15, .func (.func 41) #[] #[.pointer (some ⟨gb233, 0, none⟩), .pointer (some ⟨gb234, 0, none⟩)]] rfl tL ?_; (with_reducible refine (slices_DeleteFunc_int64_int64_AT_impl_SubfieldIn_1.calls k (fun k_ => some k_ = (.slice Ao15 t237.length co15 : Value).ownBlock) (.slice Ao15 t237.length co15) t237 (⟨gb233, 0, none⟩ : Addr) (⟨gb234, 0, none⟩ : Addr) a0_0 a0_1 a1 t240 w _ ?s1 ?s2 ?s3 ?s4 ?s5 ?s6 A7.out).mono ?_); (case s1 => exact tB); (case s2 => exact Kd.R_tight rfl HO239.out); (case s3 => exact AtC.of_blk (g := gb233) (t := 26) (cs := #[.int .i64 a0_0, .int .i64 a0_1]) (tG BK233.out) rfl); (case s4 => exact fun hs_ => (fun e_ => absurd e_ (Kd.R_ne HO239.out BK233.out (by decide))) hs_); (case s5 => exact AtC.of_blk (g := gb234) (t := 2) (cs := #[.int .i64 a1]) (tG BK234.out) rfl); (case s6 => exact fun hs_ => (fun e_ => absurd e_ (Kd.R_away HO239.out (fun _ hk => hk.2))) hs_); rintro e w16 ⟨v241, rfl, ho0, hb, hkp⟩; refine ⟨_, rfl, ?_⟩; refine qM4 (blk_kept (tG BK233.out) hkp (fun hs_ => (fun e_ => (Kd.R_ne HO239.out BK233.out (by decide)) e_) hs_)) (blk_kept (tG BK234.out) hkp (fun hs_ => (fun e_ => (Kd.R_away HO239.out (fun _ hk => hk.2)) e_) hs_)) (Kd.R_mono (ok' := fun k_ => k_ ≠ gb234) ho0 (fun k_ hk_ => Or.elim hk_ (fun hs_ => fun e_ => (Kd.R_away HO239.out (fun _ hk => hk.2)) (by rw [← e_]; exact hs_)) (fun hn_ => (Kd.freshB (g := gb234) (o := .cells #[.int .i64 a1] 2 (0, 0)) (tG BK234.out) k_ hn_)))) hb ?_; clear BK233 BK234 HB HO239; intro BK233 BK234 HO242 HB; (try clear hb); (try clear hkp); (try clear ho0)))
 go_ret2
 exact ⟨_, tE, by (with_reducible repeat (first | apply Kd.RqA | apply Kd.RqN | apply Kd.RqD)); exact Kd.R_mono HO242.out (fun _ hk => trivial), tB⟩
end Go.Proofs.Ytbgbblgdbcjibaa.P
