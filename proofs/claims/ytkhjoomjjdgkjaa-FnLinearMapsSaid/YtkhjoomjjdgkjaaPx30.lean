/- Functions of the program and what they tell, as the printing program wrote it. -/
import Derived.Test.YtkhjoomjjdgkjaaPx0
import Derived.Test.YtkhjoomjjdgkjaaPx4
import Derived.Test.YtkhjoomjjdgkjaaPx29
namespace Go.Proofs.Ytkhjoomjjdgkjaa.P
open Go.Shelf Go.RowKit Go.Proofs.YtkhjoomjjdgkjaaW.PrintWords Go.Proofs.YtkhjoomjjdgkjaaW.PrintLast Go.Proofs.YtkhjoomjjdgkjaaW.PrintMore
attribute [local go_sem] max2_int min2_int max_two min_two max_three min_three max_four min_four
set_option linter.unusedVariables false
set_option linter.unusedSimpArgs false
set_option maxHeartbeats 8000000
set_option maxRecDepth 100000
def slices_DeleteFunc_int64_int64_AT_impl_RootsOf_1.l0 : Nat → List Int → Int → Int → Int → Int → List Int → Option (List Int)
  | 0, _, _, _, _, _, _ => none
  | k + 1, x0, x5, x6, x49000, x49001, x50000 => if x6 < (x0.length : Int) then (if 0 ≤ x6 then ((impl_RootsOf_1.f k (rd x0 x6) x49000 x49001 x50000).bind fun t881 => (if t881 = true then (slices_DeleteFunc_int64_int64_AT_impl_RootsOf_1.l0 k x0 x5 (wrap64 (x6 + 1)) x49000 x49001 x50000) else (if 0 ≤ x5 then (if x5 < (x0.length : Int) then (slices_DeleteFunc_int64_int64_AT_impl_RootsOf_1.l0 k (x0.set (x5 : Int).toNat (rd x0 x6)) (wrap64 (x5 + 1)) (wrap64 (x6 + 1)) x49000 x49001 x50000) else (none)) else (none)))) else (none)) else (if 0 ≤ x5 then (if x5 ≤ (x0.length : Int) then (some ((clrEnd x0 (x5 : Int).toNat).take (x5 : Int).toNat)) else (none)) else (none))
def slices_DeleteFunc_int64_int64_AT_impl_RootsOf_1.f (k : Nat) (l0 : List Int) (a1_0 : Int) (a1_1 : Int) (l1_2 : List Int) : Option (List Int) := (slices_IndexFunc_int64_int64_AT_impl_RootsOf_1.f k l0 a1_0 a1_1 l1_2).bind fun t879 => (if t879 = (-1) then (some l0) else (slices_DeleteFunc_int64_int64_AT_impl_RootsOf_1.l0 k l0 t879 (wrap64 (t879 + 1)) a1_0 a1_1 l1_2))
theorem slices_DeleteFunc_int64_int64_AT_impl_RootsOf_1.mono_l : ∀ k, (∀ y0 y1 y2 y3 y4 y5, LeO (slices_DeleteFunc_int64_int64_AT_impl_RootsOf_1.l0 k y0 y1 y2 y3 y4 y5) (slices_DeleteFunc_int64_int64_AT_impl_RootsOf_1.l0 (k + 1) y0 y1 y2 y3 y4 y5))
 | 0 => fun _ _ _ _ _ _ r h => by simp [slices_DeleteFunc_int64_int64_AT_impl_RootsOf_1.l0] at h
 | k + 1 => by
  have ih0 := slices_DeleteFunc_int64_int64_AT_impl_RootsOf_1.mono_l k
  ·intro y0 y1 y2 y3 y4 y5
   unfold slices_DeleteFunc_int64_int64_AT_impl_RootsOf_1.l0
   repeat' first
   | (with_reducible first | apply ih0 | apply impl_RootsOf_1.mono | apply slices_IndexFunc_int64_int64_AT_impl_RootsOf_1.mono | exact LeO.refl _ | exact LeO.none _ | refine LeO.ite ?_ ?_ | refine LeO.bind ?_ (fun _ => ?_))
   | exact LeO.none _
   | refine LeO.ite ?_ ?_
   | refine LeO.bind ?_ (fun _ => ?_)
theorem slices_DeleteFunc_int64_int64_AT_impl_RootsOf_1.mono : ∀ a0 a1 a2 a3 k, LeO (slices_DeleteFunc_int64_int64_AT_impl_RootsOf_1.f k a0 a1 a2 a3) (slices_DeleteFunc_int64_int64_AT_impl_RootsOf_1.f (k + 1) a0 a1 a2 a3) := by
 intro a0 a1 a2 a3 k
 have ih0 := slices_DeleteFunc_int64_int64_AT_impl_RootsOf_1.mono_l k
 unfold slices_DeleteFunc_int64_int64_AT_impl_RootsOf_1.f
 repeat' first
  | (with_reducible first | apply ih0 | apply impl_RootsOf_1.mono | apply slices_IndexFunc_int64_int64_AT_impl_RootsOf_1.mono | exact LeO.refl _ | exact LeO.none _ | refine LeO.ite ?_ ?_ | refine LeO.bind ?_ (fun _ => ?_))
  | exact LeO.none _
  | refine LeO.ite ?_ ?_
  | refine LeO.bind ?_ (fun _ => ?_)
theorem slices_DeleteFunc_int64_int64_AT_impl_RootsOf_1.calls (k : Nat) (P0_ : Nat → Prop) (u9000_ : Value) (l0 : List Int) (g1_0 : Addr) (g1_1 : Addr) (a1_0 : Int) (a1_1 : Int) (A1_2 : Option Addr) (c1_2 : Nat) (l1_2 : List Int) (r : List Int) (w0 w : World) (hB : Below w0.heap.size w0 w) (ho0 : Kd.R (Kd.int .i64) 2 w w0.heap.size P0_ u9000_ l0) (hr1_2 : ∀ W_, Kept w W_ (fun k_ => P0_ k_) → Kd.C (Kd.int .i64) W_ A1_2 l1_2.length l1_2) (hc1_2 : l1_2.length ≤ c1_2) (hb1_0 : AtC w g1_0 [.int .i64 a1_0, .int .i64 a1_1]) (hn1_0 : ¬ (fun k_ => P0_ k_) g1_0.block) (hb1_1 : AtC w g1_1 [.slice A1_2 l1_2.length c1_2]) (hn1_1 : ¬ (fun k_ => P0_ k_) g1_1.block) (h : slices_DeleteFunc_int64_int64_AT_impl_RootsOf_1.f k l0 a1_0 a1_1 l1_2 = some r) :
 Calls Try.prog 53 #[u9000_, .func (.func 55) #[] #[.pointer (some g1_0), .pointer (some g1_1)]] w fun e w' => ∃ v0_ : Value, e = .returned (v0_) ∧ Kd.R (Kd.int .i64) 2 w' w0.heap.size (fun k_ => (P0_ k_ ∨ w.heap.size ≤ k_)) v0_ r ∧ Below w0.heap.size w0 w' ∧ Kept w w' (fun k_ => P0_ k_) := by
 have eg55 : ∀ (args_ : Array Value) (w_ : World), (callFunc 55 args_).run Try.prog w_ = .ok (.enter 55 args_) w_ := enters_of Try.func55 (by kernel_rfl) rfl
 have HO0 := Aq.mk (show Kd.R (Kd.int .i64) 2 w w0.heap.size (fun k_ => (P0_ k_ ∨ w.heap.size ≤ k_)) u9000_ l0 from Kd.R_mono ho0 (fun k_ hk => (.inl hk)))
 have HR1_2 := Aq.mk hr1_2
 have HC1_2 := Aq.mk hc1_2
 clear hr1_2 hc1_2
 have BN48 := Aq.mk hn1_0
 clear hn1_0
 have BN49 := Aq.mk hn1_1
 clear hn1_1
 have BK48 := Aq.mk hb1_0
 clear hb1_0
 have BK49 := Aq.mk hb1_1
 clear hb1_1
 have HK := Aq.mk (Kept.refl w (fun k_ => P0_ k_))
 have HW0 := Aq.mk hB.size
 have HB := Aq.mk hB
 clear hB
 have H : ((slices_IndexFunc_int64_int64_AT_impl_RootsOf_1.f k l0 a1_0 a1_1 l1_2).bind fun t879 => (if t879 = (-1) then (some l0) else (slices_DeleteFunc_int64_int64_AT_impl_RootsOf_1.l0 k l0 t879 (wrap64 (t879 + 1)) a1_0 a1_1 l1_2))) = some r := h
 clear h
 obtain ⟨t879, A3, H⟩ := qBd H
 by_cases c4 : t879 = (-1)
 ·rw [if_pos c4] at H
  have c4b0 := beq_iff_eq.mpr c4
  have c4b1 := bne_eq_false_iff_eq.mpr c4
  clear c4
  obtain rfl := Option.some.inj H
  obtain ⟨Ao5, co5, eo5⟩ := Kd.R_slice HO0.out
  subst eo5
  go_enter Try.func53, Try.ntmps53
  go_wp2_with (first | ((with_reducible refine gQc (f := 90) rfl ?_); refine goesL_ (some 10) rfl rfl Try.func90 (by kernel_rfl) rfl #[.slice Ao5 l0.length co5, .func (.func 55) #[] #[.pointer (some g1_0), .pointer (some g1_1)]] rfl tL ?_; (with_reducible refine (slices_IndexFunc_int64_int64_AT_impl_RootsOf_1.calls k _ _ l0 (g1_0 : Addr) (g1_1 : Addr) a1_0 a1_1 A1_2 c1_2 l1_2 t879 _ ?s1 ?s2 ?s3 ?s4 ?s5 ?s6 A3.out).mono ?_); (case s1 => exact tC ((Kd.R_reads' HO0.out).2.2)); (case s2 => exact (Kd.R_reads' HO0.out).2.1); (case s3 => exact Kd.C_kept_now HR1_2.out (by repeat (first | (with_reducible first | exact HK.out | apply Kept.alloc | apply Kept.drewN | apply Kept.drew) | exact HK.out))); (case s4 => exact HC1_2.out); (case s5 => repeat (first | exact (AtC.kept BK48.out (by repeat (first | (with_reducible first | exact HK.out | apply Kept.alloc | apply Kept.drewN | apply Kept.drew) | exact HK.out)) BN48.out) | (with_reducible refine AtC.alloc ?_ _) | (with_reducible refine AtC.drewN ?_ _) | (with_reducible refine AtC.drew ?_))); (case s6 => repeat (first | exact (AtC.kept BK49.out (by repeat (first | (with_reducible first | exact HK.out | apply Kept.alloc | apply Kept.drewN | apply Kept.drew) | exact HK.out)) BN49.out) | (with_reducible refine AtC.alloc ?_ _) | (with_reducible refine AtC.drewN ?_ _) | (with_reducible refine AtC.drew ?_))); rintro e w6 ⟨rfl, hb⟩; refine ⟨_, rfl, ?_⟩; refine qM3 (Kd.R_below (tR HO0.out) hb) (Kept.below (S := (fun k_ => P0_ k_)) (by repeat (first | (with_reducible first | exact HK.out | apply Kept.alloc | apply Kept.drewN | apply Kept.drew) | exact HK.out)) hb) (bQT tB hb) ?_; clear HO0 HK HB; intro HO0 HK HB; (try clear hb); (try clear hb2); (try clear hk); (try clear hi)))
  go_ret
  exact ⟨_, tE, tR HO0.out, tB, by repeat (first | (with_reducible first | exact HK.out | apply Kept.alloc | apply Kept.drewN | apply Kept.drew) | exact HK.out)⟩
 rw [if_neg c4] at H
 have c4b0 := beq_eq_false_iff_ne.mpr c4
 have c4b1 := bne_iff_ne.mpr c4
 replace H' := Aq.mk H
 clear H
 obtain ⟨Ao7, co7, eo7⟩ := Kd.R_slice HO0.out
 subst eo7
 go_enter Try.func53, Try.ntmps53
 go_wp2_with (first | ((with_reducible refine gQc (f := 90) rfl ?_); refine goesL_ (some 10) rfl rfl Try.func90 (by kernel_rfl) rfl #[.slice Ao7 l0.length co7, .func (.func 55) #[] #[.pointer (some g1_0), .pointer (some g1_1)]] rfl tL ?_; (with_reducible refine (slices_IndexFunc_int64_int64_AT_impl_RootsOf_1.calls k _ _ l0 (g1_0 : Addr) (g1_1 : Addr) a1_0 a1_1 A1_2 c1_2 l1_2 t879 _ ?s1 ?s2 ?s3 ?s4 ?s5 ?s6 A3.out).mono ?_); (case s1 => exact tC ((Kd.R_reads' HO0.out).2.2)); (case s2 => exact (Kd.R_reads' HO0.out).2.1); (case s3 => exact Kd.C_kept_now HR1_2.out (by repeat (first | (with_reducible first | exact HK.out | apply Kept.alloc | apply Kept.drewN | apply Kept.drew) | exact HK.out))); (case s4 => exact HC1_2.out); (case s5 => repeat (first | exact (AtC.kept BK48.out (by repeat (first | (with_reducible first | exact HK.out | apply Kept.alloc | apply Kept.drewN | apply Kept.drew) | exact HK.out)) BN48.out) | (with_reducible refine AtC.alloc ?_ _) | (with_reducible refine AtC.drewN ?_ _) | (with_reducible refine AtC.drew ?_))); (case s6 => repeat (first | exact (AtC.kept BK49.out (by repeat (first | (with_reducible first | exact HK.out | apply Kept.alloc | apply Kept.drewN | apply Kept.drew) | exact HK.out)) BN49.out) | (with_reducible refine AtC.alloc ?_ _) | (with_reducible refine AtC.drewN ?_ _) | (with_reducible refine AtC.drew ?_))); rintro e w8 ⟨rfl, hb⟩; refine ⟨_, rfl, ?_⟩; refine qM3 (Kd.R_below (tR HO0.out) hb) (Kept.below (S := (fun k_ => P0_ k_)) (by repeat (first | (with_reducible first | exact HK.out | apply Kept.alloc | apply Kept.drewN | apply Kept.drew) | exact HK.out)) hb) (bQT tB hb) ?_; clear HO0 HK HB; intro HO0 HK HB; (try clear hb); (try clear hb2); (try clear hk); (try clear hi)))
 go_loopg [5, 6] k (fun kq v5 v6 w' => ∃ (x0_1 : List Int) (x5_1 : Int) (x6_1 : Int), v5 = .int .i64 x5_1 ∧ v6 = .int .i64 x6_1 ∧ Aq (slices_DeleteFunc_int64_int64_AT_impl_RootsOf_1.l0 kq x0_1 x5_1 x6_1 a1_0 a1_1 l1_2 = some r) ∧ Aq (kq ≤ k) ∧ Aq (Kd.R (Kd.int .i64) 2 w' w0.heap.size (fun k_ => (P0_ k_ ∨ w.heap.size ≤ k_)) (.slice Ao7 l0.length co7) x0_1) ∧ Aq (Kept w w' (fun k_ => P0_ k_)) ∧ Aq (Below w0.heap.size w0 w'))
 case atStart => exact ⟨(l0), (t879), (wrap64 (t879 + 1)), tS, tS, H', ⟨Nat.le_refl _⟩, ⟨tR HO0.out⟩, ⟨by repeat (first | (with_reducible first | exact HK.out | apply Kept.alloc | apply Kept.drewN | apply Kept.drew) | exact HK.out)⟩, ⟨tB⟩⟩
 clear H'
 try clear c4
 try clear c4b0
 try clear c4b1
 obtain ⟨x0_1, x5_1, x6_1, rfl, rfl, HA, HK1, HO_0, HK, HB⟩ := hrel
 have hl0_1 := (Kd.R_reads' HO_0.out).1
 rw [hl0_1] at HO_0
 (try simp only [hl0_1])
 cases gk with
 | zero => exact absurd HA.out (by simp [slices_DeleteFunc_int64_int64_AT_impl_RootsOf_1.l0])
 | succ k1 =>
  have H := HA.out
  clear HA
  simp only [slices_DeleteFunc_int64_int64_AT_impl_RootsOf_1.l0] at H
  by_cases c9 : x6_1 < (x0_1.length : Int)
  rotate_left
  ·rw [if_neg c9] at H
   have c9b0 := decide_eq_false c9
   clear c9
   (try (have c9b0z := c9b0; simp only [hl0_1] at c9b0z))
   by_cases c20 : 0 ≤ x5_1
   rotate_left
   ·rw [if_neg c20] at H
    exact absurd H (by simp)
   rw [if_pos c20] at H
   have c20b0 := eq_true c20
   have c20b1 := decide_eq_true c20
   clear c20
   (try (have c20b0z := c20b0; simp only [hl0_1] at c20b0z))
   (try (have c20b1z := c20b1; simp only [hl0_1] at c20b1z))
   by_cases c21 : x5_1 ≤ (x0_1.length : Int)
   rotate_left
   ·rw [if_neg c21] at H
    exact absurd H (by simp)
   rw [if_pos c21] at H
   have c21b0 := eq_true c21
   have c21b1 := decide_eq_true c21
   clear c21
   (try (have c21b0z := c21b0; simp only [hl0_1] at c21b0z))
   (try (have c21b1z := c21b1; simp only [hl0_1] at c21b1z))
   obtain ⟨y883, hy883⟩ : ∃ y_ : List Int, y_ = (x0_1.drop (x5_1 : Int).toNat) := ⟨_, rfl⟩
   replace H : (some ((clrEnd x0_1 (x5_1 : Int).toNat).take (x5_1 : Int).toNat)) = some r := by first | (rw [hy883]; with_reducible exact H) | (have H2_ := (Option.bind_some _ _).symm.trans H; rw [hy883]; with_reducible exact H2_) | (have H2_ := (Option.bind_some _ _).symm.trans H; with_reducible exact H2_) | with_reducible exact H | (rw [hy883]; exact H) | exact H
   have Ny883 := Aq.mk hy883
   clear hy883
   obtain ⟨y887, hy887⟩ : ∃ y_ : List Int, y_ = (clrEnd x0_1 (x5_1 : Int).toNat) := ⟨_, rfl⟩
   replace H : (some (y887.take (x5_1 : Int).toNat)) = some r := by first | (rw [hy887]; with_reducible exact H) | (have H2_ := (Option.bind_some _ _).symm.trans H; rw [hy887]; with_reducible exact H2_) | (have H2_ := (Option.bind_some _ _).symm.trans H; with_reducible exact H2_) | with_reducible exact H | (rw [hy887]; exact H) | exact H
   have Ny887 := Aq.mk hy887
   clear hy887
   have c22b0 := eq_true (of_decide_eq_true tA : x5_1 ≤ (x0_1.length : Int))
   obtain ⟨y888, hy888⟩ : ∃ y_ : List Int, y_ = (y887.take (x5_1 : Int).toNat) := ⟨_, rfl⟩
   replace H : (some y888) = some r := by first | (rw [hy888]; with_reducible exact H) | (have H2_ := (Option.bind_some _ _).symm.trans H; rw [hy888]; with_reducible exact H2_) | (have H2_ := (Option.bind_some _ _).symm.trans H; with_reducible exact H2_) | with_reducible exact H | (rw [hy888]; exact H) | exact H
   have Ny888 := Aq.mk hy888
   clear hy888
   obtain rfl := Option.some.inj H
   have q23 : (x5_1 : Int) ≤ ((x0_1.length : Int) : Int) := of_decide_eq_true tA
   obtain ⟨i023, hi023, _, hsz23, _⟩ := info_parts info2
   have hroom23 : x0_1.length ≤ co7 := (Kd.R_reads' HO_0.out).2.1
   have hC23 : Kd.C (Kd.int .i64) _ Ao7 x0_1.length x0_1 := (Kd.R_reads' HO_0.out).2.2
   have q023 : (0 : Int) ≤ (x5_1 : Int) := of_decide_eq_true tA
   have hcut23 := cut_from (P := Try.prog) 24 2 .i64 Try.underlying24 hi023 1 hsz23 Ao7 x0_1.length co7 x5_1 q023 q23
   have hr23 := Kd.C_drop (m := (x5_1 : Int).toNat) (c := co7) hC23 (by omega) hroom23
   obtain ⟨A23, hA23⟩ : ∃ A1, A1 = (if co7 = (x5_1 : Int).toNat then Ao7 else (Ao7 : Option Addr).map (·.add ((x5_1 : Int).toNat * 1))) := ⟨_, rfl⟩
   obtain ⟨c23, hc23⟩ : ∃ c1, c1 = co7 - (x5_1 : Int).toNat := ⟨_, rfl⟩
   have hy23 : y883.length = x0_1.length - (x5_1 : Int).toNat := (by rw [Ny883.out, List.length_drop] <;> omega)
   rw [show (x0_1).drop (x5_1 : Int).toNat = y883 from Ny883.out.symm] at hr23
   replace hr23 : Kd.C (Kd.int .i64) _ A23 y883.length y883 := (by rw [hA23]; exact hr23)
   rw [← hy23, ← hA23, ← hc23] at hcut23
   have HR886 := Aq.mk hr23
   have HC886 := Aq.mk (show y883.length ≤ c23 from by rw [hy23, hc23]; exact Nat.sub_le_sub_right hroom23 _)
   clear hr23 hC23 hroom23 hi023 hsz23 hc23
   have KY23 := Aq.mk hy23
   have KA23 := Aq.mk hA23
   clear hy23 hA23
   have KL23 := Aq.mk (show (x5_1 : Int).toNat ≤ x0_1.length from by omega)
   replace q23 := eq_true q23
   go_wp2_with (first | ((with_reducible refine gate_clear rfl ?_); refine R_clear rfl (.tmp 38) 24 rfl Try.underlying24 (ik := .i64) info2 rfl rfl KA23.out KY23.out ((Kd.R_reads' HO_0.out).2.1) (tR HO_0.out) tB (Nat.le_refl _) ?_; intro w24 ho hb hg; rw [← Ny887.out] at ho; refine qM3 ho hb (Kept.of_grown (S := (fun k_ => P0_ k_)) hg (by repeat (first | (with_reducible first | exact HK.out | apply Kept.alloc | apply Kept.drewN | apply Kept.drew) | exact HK.out)) (fun k_ e_ => (HO_0.out.1 k_ e_))) ?_; clear HO_0 HB HK; intro HO_0 HB HK; clear ho hb hg; have hlx25 := (Kd.R_reads' HO_0.out).1; have q25 : (x5_1 : Int) ≤ ((x0_1.length : Int) : Int) := of_decide_eq_true tA; obtain ⟨i025, hi025, _, hsz25, _⟩ := info_parts info2; have hcut25 := cut_to (P := Try.prog) 24 2 .i64 Try.underlying24 hi025 Ao7 x0_1.length co7 x5_1 (of_decide_eq_true tA) q25 (Kd.R_reads' HO_0.out).2.1; have hr25 := Kd.R_take (m := (x5_1 : Int).toNat) HO_0.out (by omega); have hy25 : y888.length = (x5_1 : Int).toNat := (by rw [Ny888.out, List.length_take]; omega); rw [← Ny888.out] at hr25; rw [← hy25] at hr25 hcut25; clear hy25 hi025 hsz25 HO_0 hlx25; have HO890 := Aq.mk hr25; clear hr25; replace q25 := eq_true q25))
   go_ret
   exact ⟨_, tE, tR HO890.out, tB, by repeat (first | (with_reducible first | exact HK.out | apply Kept.alloc | apply Kept.drewN | apply Kept.drew) | exact HK.out)⟩
  rw [if_pos c9] at H
  have c9b0 := decide_eq_true c9
  clear c9
  (try (have c9b0z := c9b0; simp only [hl0_1] at c9b0z))
  by_cases c10 : 0 ≤ x6_1
  rotate_left
  ·rw [if_neg c10] at H
   exact absurd H (by simp)
  rw [if_pos c10] at H
  have c10b0 := decide_eq_true c10
  clear c10
  (try (have c10b0z := c10b0; simp only [hl0_1] at c10b0z))
  obtain ⟨t881, A11, H⟩ := qBd H
  by_cases c12 : t881 = true
  ·subst c12
   rw [if_pos rfl] at H
   replace H' := Aq.mk H
   clear H
   have p880 : 0 ≤ (x6_1 : Int) := of_decide_eq_true tA
   have q880 : x6_1 < (x0_1.length : Int) := of_decide_eq_true tA
   obtain ⟨ad880, e880, hx880_0⟩ := Kd.at_int (Kd.R_reads' HO_0.out).2.2 x6_1 p880 q880
   cases e880
   replace p880 := eq_true p880
   replace q880 := eq_true q880
   go_wp2_with (first | (go_at_fn 55; (with_reducible refine (impl_RootsOf_1.calls k1 (rd x0_1 x6_1) (g1_0 : Addr) a1_0 a1_1 (g1_1 : Addr) A1_2 c1_2 l1_2 true _ ?s1 ?s2 ?s3 ?s4 A11.out).mono ?_); (case s1 => exact Kd.C_kept_now HR1_2.out (by repeat (first | (with_reducible first | exact HK.out | apply Kept.alloc | apply Kept.drewN | apply Kept.drew) | exact HK.out))); (case s2 => exact HC1_2.out); (case s3 => repeat (first | exact (AtC.kept BK48.out (by repeat (first | (with_reducible first | exact HK.out | apply Kept.alloc | apply Kept.drewN | apply Kept.drew) | exact HK.out)) BN48.out) | (with_reducible refine AtC.alloc ?_ _) | (with_reducible refine AtC.drewN ?_ _) | (with_reducible refine AtC.drew ?_))); (case s4 => repeat (first | exact (AtC.kept BK49.out (by repeat (first | (with_reducible first | exact HK.out | apply Kept.alloc | apply Kept.drewN | apply Kept.drew) | exact HK.out)) BN49.out) | (with_reducible refine AtC.alloc ?_ _) | (with_reducible refine AtC.drewN ?_ _) | (with_reducible refine AtC.drew ?_))); rintro e w13 ⟨rfl, hb⟩; refine qM3 (Kd.R_below (tR HO_0.out) hb) (Kept.below (S := (fun k_ => P0_ k_)) (by repeat (first | (with_reducible first | exact HK.out | apply Kept.alloc | apply Kept.drewN | apply Kept.drew) | exact HK.out)) hb) (bQT tB hb) ?_; clear HO_0 HK HB; intro HO_0 HK HB; (try clear hb); (try clear hb2); (try clear hk); (try clear hi)))
   (try simp only [← hl0_1])
   go_roundg k1
   case measure => have := HK1.out; omega
   case rel => exact ⟨(x0_1), (x5_1), (wrap64 (x6_1 + 1)), tS, tS, H', ⟨by have := HK1.out; omega⟩, ⟨by (try simp only [hl0_1]); (with_reducible repeat (first | apply Kd.RqA | apply Kd.RqN | apply Kd.RqD)); exact HO_0.out⟩, ⟨by repeat (first | (with_reducible first | exact HK.out | apply Kept.alloc | apply Kept.drewN | apply Kept.drew) | exact HK.out)⟩, ⟨tB⟩⟩
  replace c12 := Bool.eq_false_iff.mpr c12
  subst c12
  rw [if_neg (show ¬ (false = true) by decide)] at H
  by_cases c14 : 0 ≤ x5_1
  rotate_left
  ·rw [if_neg c14] at H
   exact absurd H (by simp)
  rw [if_pos c14] at H
  have c14b0 := decide_eq_true c14
  clear c14
  (try (have c14b0z := c14b0; simp only [hl0_1] at c14b0z))
  by_cases c15 : x5_1 < (x0_1.length : Int)
  rotate_left
  ·rw [if_neg c15] at H
   exact absurd H (by simp)
  rw [if_pos c15] at H
  have c15b0 := decide_eq_true c15
  clear c15
  (try (have c15b0z := c15b0; simp only [hl0_1] at c15b0z))
  obtain ⟨y882, hy882⟩ : ∃ y_ : List Int, y_ = (x0_1.set (x5_1 : Int).toNat (rd x0_1 x6_1)) := ⟨_, rfl⟩
  replace H : (slices_DeleteFunc_int64_int64_AT_impl_RootsOf_1.l0 k1 y882 (wrap64 (x5_1 + 1)) (wrap64 (x6_1 + 1)) a1_0 a1_1 l1_2) = some r := by first | (rw [hy882]; with_reducible exact H) | (have H2_ := (Option.bind_some _ _).symm.trans H; rw [hy882]; with_reducible exact H2_) | (have H2_ := (Option.bind_some _ _).symm.trans H; with_reducible exact H2_) | with_reducible exact H | (rw [hy882]; exact H) | exact H
  have Ny882 := Aq.mk hy882
  clear hy882
  replace H' := Aq.mk H
  clear H
  have p880 : 0 ≤ (x6_1 : Int) := of_decide_eq_true tA
  have q880 : x6_1 < (x0_1.length : Int) := of_decide_eq_true tA
  obtain ⟨ad880, e880, hx880_0⟩ := Kd.at_int (Kd.R_reads' HO_0.out).2.2 x6_1 p880 q880
  cases e880
  replace p880 := eq_true p880
  replace q880 := eq_true q880
  go_wp2_with (first | (go_at_fn 55; (with_reducible refine (impl_RootsOf_1.calls k1 (rd x0_1 x6_1) (g1_0 : Addr) a1_0 a1_1 (g1_1 : Addr) A1_2 c1_2 l1_2 false _ ?s1 ?s2 ?s3 ?s4 A11.out).mono ?_); (case s1 => exact Kd.C_kept_now HR1_2.out (by repeat (first | (with_reducible first | exact HK.out | apply Kept.alloc | apply Kept.drewN | apply Kept.drew) | exact HK.out))); (case s2 => exact HC1_2.out); (case s3 => repeat (first | exact (AtC.kept BK48.out (by repeat (first | (with_reducible first | exact HK.out | apply Kept.alloc | apply Kept.drewN | apply Kept.drew) | exact HK.out)) BN48.out) | (with_reducible refine AtC.alloc ?_ _) | (with_reducible refine AtC.drewN ?_ _) | (with_reducible refine AtC.drew ?_))); (case s4 => repeat (first | exact (AtC.kept BK49.out (by repeat (first | (with_reducible first | exact HK.out | apply Kept.alloc | apply Kept.drewN | apply Kept.drew) | exact HK.out)) BN49.out) | (with_reducible refine AtC.alloc ?_ _) | (with_reducible refine AtC.drewN ?_ _) | (with_reducible refine AtC.drew ?_))); rintro e w17 ⟨rfl, hb⟩; refine qM3 (Kd.R_below (tR HO_0.out) hb) (Kept.below (S := (fun k_ => P0_ k_)) (by repeat (first | (with_reducible first | exact HK.out | apply Kept.alloc | apply Kept.drewN | apply Kept.drew) | exact HK.out)) hb) (bQT tB hb) ?_; clear HO_0 HK HB; intro HO_0 HK HB; (try clear hb); (try clear hb2); (try clear hk); (try clear hi); have p16 : 0 ≤ (x5_1 : Int) := of_decide_eq_true tA; have q16 : (x5_1 : Int) < ((x0_1.length : Int) : Int) := of_decide_eq_true tA; obtain ⟨go16, co16, eo16, gb16, gl16, cl16, HG16⟩ := Kd.R_form HO_0.out (by omega); (first | cases eo16 | (injection eo16 with ea_ en_ ec_; (first | subst ea_ | (injection ea_ with ea_; subst ea_)); subst ec_; clear en_)); have GB16 := Aq.mk gb16; have GG16 := Aq.mk HG16; clear gb16 gl16 HG16; have HMgo16 := Aq.mk (show (P0_ go16 ∨ w.heap.size ≤ go16) from (HO_0.out.1 _ rfl)); (first | simp only [add_plain] at hx880_0 | skip); obtain ⟨hx16_0, hf16_0⟩ := Kd.R_celln 0 HO_0.out (x5_1 : Int) p16 q16; replace p16 := eq_true p16; replace q16 := eq_true q16; obtain ⟨hy18_, hz18_⟩ := Kd.R_celln 0 HO_0.out (x5_1 : Int) (of_decide_eq_true tA) (of_decide_eq_true tA); have HP18 := Kd.R_putg HO_0.out (x5_1 : Int) (rd x0_1 x6_1)) | ((with_reducible refine gate_store (t := 2) (p := 33) rfl ?_); refine store_event (t := 2) (p := 33) (v := ?vo_w19) (w1 := (w17.setCell ⟨go16, (x5_1 : Int).toNat, none⟩ (.int .i64 (rd x0_1 x6_1)))) ?hg ?ho ?hn ?hr ?_; (case ho => rfl); (case hg => rfl); (case hn => rfl); (case hr => exact tH); intro w19 hw; have hg : w17.grownBy w19 (some go16) := (by rw [hw]; exact HP18.2); have hp_ : Kd.R (Kd.int .i64) 2 w19 w0.heap.size (fun k_ => (P0_ k_ ∨ w.heap.size ≤ k_)) (.slice (some ⟨go16, 0, none⟩) x0_1.length co7) y882 := (by rw [hw, Ny882.out]; exact HP18.1); clear HP18; refine qM3 hp_ ((by rw [hw]; exact bQS (HB.out) GB16.out : Below w0.heap.size w0 w19)) (Kept.of_grown (S := (fun k_ => P0_ k_)) hg (by repeat (first | (with_reducible first | exact HK.out | apply Kept.alloc | apply Kept.drewN | apply Kept.drew) | exact HK.out)) (fun k_ e_ => (HO_0.out.1 k_ e_))) ?_; clear HO_0 HB HK; intro HO_0 HB HK; clear hg hw hp_))
  (try simp only [← hl0_1])
  go_roundg k1
  case measure => have := HK1.out; omega
  case rel => exact ⟨(y882), (wrap64 (x5_1 + 1)), (wrap64 (x6_1 + 1)), tS, tS, H', ⟨by have := HK1.out; omega⟩, ⟨by (try simp only [hl0_1]); (with_reducible repeat (first | apply Kd.RqA | apply Kd.RqN | apply Kd.RqD)); exact HO_0.out⟩, ⟨by repeat (first | (with_reducible first | exact HK.out | apply Kept.alloc | apply Kept.drewN | apply Kept.drew) | exact HK.out)⟩, ⟨tB⟩⟩
def impl_RootsOf.f (k : Nat) (a0_0 : Int) (a0_1 : Int) (l1 : List Int) : Option (List Int × Int) := (impl_Field_linearCode.f k a0_0 a0_1 (([l1] : List (List Int)))).bind fun t896 => (if t896 = 0 then ((impl_Field_all.f k a0_0 a0_1).bind fun t897 => ((slices_DeleteFunc_int64_int64_AT_impl_RootsOf_1.f k t897 a0_0 a0_1 l1).bind fun t900 => (some (t900, 0)))) else (some (([] : List Int), t896)))
theorem impl_RootsOf.mono : ∀ a0 a1 a2 k, LeO (impl_RootsOf.f k a0 a1 a2) (impl_RootsOf.f (k + 1) a0 a1 a2) := by
 intro a0 a1 a2 k
 unfold impl_RootsOf.f
 repeat' first
  | (with_reducible first | apply impl_Field_all.mono | apply impl_Field_linearCode.mono | apply slices_DeleteFunc_int64_int64_AT_impl_RootsOf_1.mono | exact LeO.refl _ | exact LeO.none _ | refine LeO.ite ?_ ?_ | refine LeO.bind ?_ (fun _ => ?_))
  | exact LeO.none _
  | refine LeO.ite ?_ ?_
  | refine LeO.bind ?_ (fun _ => ?_)
theorem impl_RootsOf.calls (k : Nat) (a0_0 : Int) (a0_1 : Int) (P1_ : Nat → Prop) (A1 : Option Addr) (c1 : Nat) (l1 : List Int) (r1 : List Int) (r2 : Int) (w : World) (hs1 : Kd.V (Kd.int .i64) 2 w w.heap.size (fun k_ => P1_ k_) (.slice A1 l1.length c1) l1) (h : impl_RootsOf.f k a0_0 a0_1 l1 = some (r1, r2)) :
 Calls Try.prog 29 #[.agg #[.int .i64 a0_0, .int .i64 a0_1], .slice A1 l1.length c1] w fun e w' => ∃ v0_ : Value, e = .returned (.tuple #[v0_, .int .i64 r2]) ∧ Kd.R (Kd.int .i64) 2 w' w.heap.size (fun k_ => (w.heap.size ≤ k_)) v0_ r1 ∧ Below w.heap.size w w' := by
 have hu27 := Try.underlying27
 have HO1 := Aq.mk (show Kd.V (Kd.int .i64) 2 w w.heap.size (fun k_ => (P1_ k_ ∨ w.heap.size ≤ k_)) (.slice A1 l1.length c1) l1 from Kd.V_mono hs1 (fun k_ hk => .inl hk))
 have HB := Aq.mk (Below.refl w.heap.size w)
 have H : ((impl_Field_linearCode.f k a0_0 a0_1 (([l1] : List (List Int)))).bind fun t896 => (if t896 = 0 then ((impl_Field_all.f k a0_0 a0_1).bind fun t897 => ((slices_DeleteFunc_int64_int64_AT_impl_RootsOf_1.f k t897 a0_0 a0_1 l1).bind fun t900 => (some (t900, 0)))) else (some (([] : List Int), t896)))) = some (r1, r2) := h
 clear h
 obtain ⟨y893, hy893⟩ : ∃ y_ : List (List Int), y_ = (([l1] : List (List Int))) := ⟨_, rfl⟩
 replace H : ((impl_Field_linearCode.f k a0_0 a0_1 y893).bind fun t896 => (if t896 = 0 then ((impl_Field_all.f k a0_0 a0_1).bind fun t897 => ((slices_DeleteFunc_int64_int64_AT_impl_RootsOf_1.f k t897 a0_0 a0_1 l1).bind fun t900 => (some (t900, 0)))) else (some (([] : List Int), t896)))) = some (r1, r2) := by first | (rw [hy893]; with_reducible exact H) | (have H2_ := (Option.bind_some _ _).symm.trans H; rw [hy893]; with_reducible exact H2_) | (have H2_ := (Option.bind_some _ _).symm.trans H; with_reducible exact H2_) | with_reducible exact H | (rw [hy893]; exact H) | exact H
 have Ny893 := Aq.mk hy893
 clear hy893
 obtain ⟨t896, A3, H⟩ := qBd H
 by_cases c4 : t896 = 0
 rotate_left
 ·rw [if_neg c4] at H
  have c4b0 := beq_eq_false_iff_ne.mpr c4
  have c4b1 := bne_iff_ne.mpr c4
  simp only [Option.some.injEq, Prod.mk.injEq] at H
  obtain ⟨rfl, rfl⟩ := H
  go_enter Try.func29, Try.ntmps29
  go_wp2_with (first | ((with_reducible refine gQd (N := 2) rfl ?_); refine xQe ?hg (N := 2) ?hd (cs := #[.int .i64 a0_0, .int .i64 a0_1]) (t := 27) ?hr ?_; (case hd => rfl); (case hg => rfl); (case hr => exact tH); intro gb891 hg w20 hbox hb; refine qM5 (Kd.V_below (Kd.V_elderB (by (with_reducible repeat (first | apply Kd.V_alloc | apply Kd.V_drewN | apply Kd.V_drew)); exact HO1.out) gb891 (Nat.le_of_eq hg.symm)) hb) (bQT tB hb) hbox (tZ w hg) (tZ w hg) ?_; clear HO1 HB; intro HO1 HB BK891 GW891 GE891; clear hb hbox hg) | ((with_reducible refine gQd (N := 3) rfl ?_); refine xQe ?hg (N := 3) ?hd (cs := #[.slice A1 l1.length c1]) (t := 24) ?hr ?_; (case hd => rfl); (case hg => rfl); (case hr => exact tH); intro gb892 hg w21 hbox hb; refine qM8 (Kd.V_below (Kd.V_elderB (by (with_reducible repeat (first | apply Kd.V_alloc | apply Kd.V_drewN | apply Kd.V_drew)); exact HO1.out) gb892 (Nat.le_of_eq hg.symm)) hb) (tQ BK891.out hb) (bQT tB hb) hbox (tZ w hg) (tZ w hg) ((by rw [hg]; exact Nat.ne_of_lt (blk_lt (g := gb891) (o := .cells #[.int .i64 a0_0, .int .i64 a0_1] 27 (0, 0)) (tG BK891.out)) : gb891 ≠ gb892)) ((by rw [hg]; exact Nat.ne_of_gt (blk_lt (g := gb891) (o := .cells #[.int .i64 a0_0, .int .i64 a0_1] 27 (0, 0)) (tG BK891.out)) : gb892 ≠ gb891)) ?_; clear HO1 BK891 HB; intro HO1 BK891 HB BK892 GW892 GE892 NB891_892 NB892_891; clear hb hbox hg; have hnb22 := NB891_892.out; have hnc22 := NB892_891.out; have hcz23_0 : w21.cell? ⟨gb891, 0, none⟩ = some (.int .i64 a0_0) := (kQC BK891.out 0).trans rfl; have hcz23_1 : w21.cell? ⟨gb891, 1, none⟩ = some (.int .i64 a0_1) := (kQC BK891.out 1).trans rfl; have hfz23_0 := kQF BK891.out 0; have hfz23_1 := kQF BK891.out 1; have hcz24_0 : w21.cell? ⟨gb892, 0, none⟩ = some (.slice A1 l1.length c1) := (kQC BK892.out 0).trans rfl; have hfz24_0 := kQF BK892.out 0) | ((with_reducible refine gQd (N := 9) rfl ?_); refine Kd.N_lit (Kd.slice 2 (Kd.int .i64)) _ 24 ?hg (N' := 9) ?hd (xs := ([l1] : List (List Int))) (inner := [.slice A1 l1.length c1]) (ok := (fun k_ => (P1_ k_ ∨ w.heap.size ≤ k_) ∧ k_ ≠ gb891 ∧ k_ ≠ gb892)) (okp := (fun k_ => (P1_ k_ ∨ w.heap.size ≤ k_) ∧ k_ ≠ gb891 ∧ k_ ≠ gb892)) ?hr ?hp (fun _ hk => hk) ((show ∀ k_, w21.heap.size ≤ k_ → (fun k_ => (P1_ k_ ∨ w.heap.size ≤ k_) ∧ k_ ≠ gb891 ∧ k_ ≠ gb892) k_ from fun k_ hk => ⟨(.inr (Nat.le_trans (bQZ tB) hk)), Kd.freshB (g := gb891) (o := .cells #[.int .i64 a0_0, .int .i64 a0_1] 27 (0, 0)) (tG BK891.out) k_ hk, Kd.freshB (g := gb892) (o := .cells #[.slice A1 l1.length c1] 24 (0, 0)) (tG BK892.out) k_ hk⟩) _ (Nat.le_refl _)) (Below.refl _ _) (Nat.le_refl _) (by simp) ?_; (case hd => rfl); (case hg => rfl); (case hr => exact tH); (case hp => exact (Reps.one (show Kd.FK (Kd.slice 2 (Kd.int .i64)) _ _ l1 [.slice A1 l1.length c1] from (Kd.FK_slice_mk (Kd.V_reads' (Kd.V_mono (ok' := (fun k_ => (P1_ k_ ∨ w.heap.size ≤ k_) ∧ k_ ≠ gb891 ∧ k_ ≠ gb892)) (HO1.out) (fun k_ hk => ⟨hk.1.1, ⟨hk.1.2, hk.2⟩⟩))).2.1 (Kd.V_F (Kd.V_mono (ok' := (fun k_ => (P1_ k_ ∨ w.heap.size ≤ k_) ∧ k_ ≠ gb891 ∧ k_ ≠ gb892)) (HO1.out) (fun k_ hk => ⟨hk.1.1, ⟨hk.1.2, hk.2⟩⟩))))) (Reps.none _ _))); intro v894 w25 ho26 hb hg_ hnew_; clear hg_ hnew_; (first | rw [← Ny893.out] at ho26 | (simp only [Int.reduceToNat] at ho26; rw [← Ny893.out] at ho26)); refine qM5 (Kd.V_elder' (by (with_reducible repeat (first | apply Kd.V_alloc | apply Kd.V_drewN | apply Kd.V_drew)); exact HO1.out) (Kd.N_base ho26) hb) (Kd.N_lower ho26 (bQZ tB)) (tQ BK891.out hb) (tQ BK892.out hb) (bQT tB hb) ?_; clear HO1 BK891 BK892 HB; intro HO1 HO895 BK891 BK892 HB; clear hb ho26; obtain ⟨Ao27, co27, eo27⟩ := Kd.N_slice HO895.out; subst eo27) | ((with_reducible refine gQc (f := 41) rfl ?_); refine goesL_ (some 10) rfl rfl Try.func41 (by kernel_rfl) rfl #[.agg #[.int .i64 a0_0, .int .i64 a0_1], .slice Ao27 y893.length co27] rfl tL ?_; (with_reducible refine (impl_Field_linearCode.calls k a0_0 a0_1 _ _ y893 t896 _ ?s1 ?s2 A3.out).mono ?_); (case s1 => exact tC ((Kd.N_reads' HO895.out).2.2)); (case s2 => exact (Kd.N_reads' HO895.out).2.1); rintro e w28 ⟨rfl, hb⟩; refine ⟨_, rfl, ?_⟩; refine qM5 (Kd.V_below (by (with_reducible repeat (first | apply Kd.V_alloc | apply Kd.V_drewN | apply Kd.V_drew)); exact HO1.out) hb) (Kd.N_below (by (with_reducible repeat (first | apply Kd.N_alloc | apply Kd.N_drewN | apply Kd.N_drew)); exact HO895.out) hb) (tQ BK891.out hb) (tQ BK892.out hb) (bQT tB hb) ?_; clear HO1 HO895 BK891 BK892 HB; intro HO1 HO895 BK891 BK892 HB; (try clear hb); (try clear hb2); (try clear hk); (try clear hi)))
  go_ret2
  exact ⟨_, tE, by first | exact Kd.R_nil _ _ _ _ _ | exact Kd.N_nil _ _ _ _ _ | exact Kd.V_nil _ _ _ _ _ | exact Kd.Q_nil _ _ _ _ _ | exact Kd.S_nil _ _ _ _ _, tB⟩
 rw [if_pos c4] at H
 have c4b0 := beq_iff_eq.mpr c4
 have c4b1 := bne_eq_false_iff_eq.mpr c4
 clear c4
 obtain ⟨t897, A5, H⟩ := qBd H
 obtain ⟨t900, A6, H⟩ := qBd H
 simp only [Option.some.injEq, Prod.mk.injEq] at H
 obtain ⟨rfl, rfl⟩ := H
 go_enter Try.func29, Try.ntmps29
 go_wp2_with (first | ((with_reducible refine gQd (N := 2) rfl ?_); refine xQe ?hg (N := 2) ?hd (cs := #[.int .i64 a0_0, .int .i64 a0_1]) (t := 27) ?hr ?_; (case hd => rfl); (case hg => rfl); (case hr => exact tH); intro gb891 hg w7 hbox hb; refine qM5 (Kd.V_below (Kd.V_elderB (by (with_reducible repeat (first | apply Kd.V_alloc | apply Kd.V_drewN | apply Kd.V_drew)); exact HO1.out) gb891 (Nat.le_of_eq hg.symm)) hb) (bQT tB hb) hbox (tZ w hg) (tZ w hg) ?_; clear HO1 HB; intro HO1 HB BK891 GW891 GE891; clear hb hbox hg) | ((with_reducible refine gQd (N := 3) rfl ?_); refine xQe ?hg (N := 3) ?hd (cs := #[.slice A1 l1.length c1]) (t := 24) ?hr ?_; (case hd => rfl); (case hg => rfl); (case hr => exact tH); intro gb892 hg w8 hbox hb; refine qM8 (Kd.V_below (Kd.V_elderB (by (with_reducible repeat (first | apply Kd.V_alloc | apply Kd.V_drewN | apply Kd.V_drew)); exact HO1.out) gb892 (Nat.le_of_eq hg.symm)) hb) (tQ BK891.out hb) (bQT tB hb) hbox (tZ w hg) (tZ w hg) ((by rw [hg]; exact Nat.ne_of_lt (blk_lt (g := gb891) (o := .cells #[.int .i64 a0_0, .int .i64 a0_1] 27 (0, 0)) (tG BK891.out)) : gb891 ≠ gb892)) ((by rw [hg]; exact Nat.ne_of_gt (blk_lt (g := gb891) (o := .cells #[.int .i64 a0_0, .int .i64 a0_1] 27 (0, 0)) (tG BK891.out)) : gb892 ≠ gb891)) ?_; clear HO1 BK891 HB; intro HO1 BK891 HB BK892 GW892 GE892 NB891_892 NB892_891; clear hb hbox hg; have hnb9 := NB891_892.out; have hnc9 := NB892_891.out; have hcz10_0 : w8.cell? ⟨gb891, 0, none⟩ = some (.int .i64 a0_0) := (kQC BK891.out 0).trans rfl; have hcz10_1 : w8.cell? ⟨gb891, 1, none⟩ = some (.int .i64 a0_1) := (kQC BK891.out 1).trans rfl; have hfz10_0 := kQF BK891.out 0; have hfz10_1 := kQF BK891.out 1; have hcz11_0 : w8.cell? ⟨gb892, 0, none⟩ = some (.slice A1 l1.length c1) := (kQC BK892.out 0).trans rfl; have hfz11_0 := kQF BK892.out 0) | ((with_reducible refine gQd (N := 9) rfl ?_); refine Kd.N_lit (Kd.slice 2 (Kd.int .i64)) _ 24 ?hg (N' := 9) ?hd (xs := ([l1] : List (List Int))) (inner := [.slice A1 l1.length c1]) (ok := (fun k_ => (P1_ k_ ∨ w.heap.size ≤ k_) ∧ k_ ≠ gb891 ∧ k_ ≠ gb892)) (okp := (fun k_ => (P1_ k_ ∨ w.heap.size ≤ k_) ∧ k_ ≠ gb891 ∧ k_ ≠ gb892)) ?hr ?hp (fun _ hk => hk) ((show ∀ k_, w8.heap.size ≤ k_ → (fun k_ => (P1_ k_ ∨ w.heap.size ≤ k_) ∧ k_ ≠ gb891 ∧ k_ ≠ gb892) k_ from fun k_ hk => ⟨(.inr (Nat.le_trans (bQZ tB) hk)), Kd.freshB (g := gb891) (o := .cells #[.int .i64 a0_0, .int .i64 a0_1] 27 (0, 0)) (tG BK891.out) k_ hk, Kd.freshB (g := gb892) (o := .cells #[.slice A1 l1.length c1] 24 (0, 0)) (tG BK892.out) k_ hk⟩) _ (Nat.le_refl _)) (Below.refl _ _) (Nat.le_refl _) (by simp) ?_; (case hd => rfl); (case hg => rfl); (case hr => exact tH); (case hp => exact (Reps.one (show Kd.FK (Kd.slice 2 (Kd.int .i64)) _ _ l1 [.slice A1 l1.length c1] from (Kd.FK_slice_mk (Kd.V_reads' (Kd.V_mono (ok' := (fun k_ => (P1_ k_ ∨ w.heap.size ≤ k_) ∧ k_ ≠ gb891 ∧ k_ ≠ gb892)) (HO1.out) (fun k_ hk => ⟨hk.1.1, ⟨hk.1.2, hk.2⟩⟩))).2.1 (Kd.V_F (Kd.V_mono (ok' := (fun k_ => (P1_ k_ ∨ w.heap.size ≤ k_) ∧ k_ ≠ gb891 ∧ k_ ≠ gb892)) (HO1.out) (fun k_ hk => ⟨hk.1.1, ⟨hk.1.2, hk.2⟩⟩))))) (Reps.none _ _))); intro v894 w12 ho13 hb hg_ hnew_; clear hg_ hnew_; (first | rw [← Ny893.out] at ho13 | (simp only [Int.reduceToNat] at ho13; rw [← Ny893.out] at ho13)); refine qM5 (Kd.V_elder' (by (with_reducible repeat (first | apply Kd.V_alloc | apply Kd.V_drewN | apply Kd.V_drew)); exact HO1.out) (Kd.N_base ho13) hb) (Kd.N_lower ho13 (bQZ tB)) (tQ BK891.out hb) (tQ BK892.out hb) (bQT tB hb) ?_; clear HO1 BK891 BK892 HB; intro HO1 HO895 BK891 BK892 HB; clear hb ho13; obtain ⟨Ao14, co14, eo14⟩ := Kd.N_slice HO895.out; subst eo14) | ((with_reducible refine gQc (f := 41) rfl ?_); refine goesL_ (some 10) rfl rfl Try.func41 (by kernel_rfl) rfl #[.agg #[.int .i64 a0_0, .int .i64 a0_1], .slice Ao14 y893.length co14] rfl tL ?_; (with_reducible refine (impl_Field_linearCode.calls k a0_0 a0_1 _ _ y893 t896 _ ?s1 ?s2 A3.out).mono ?_); (case s1 => exact tC ((Kd.N_reads' HO895.out).2.2)); (case s2 => exact (Kd.N_reads' HO895.out).2.1); rintro e w15 ⟨rfl, hb⟩; refine ⟨_, rfl, ?_⟩; refine qM5 (Kd.V_below (by (with_reducible repeat (first | apply Kd.V_alloc | apply Kd.V_drewN | apply Kd.V_drew)); exact HO1.out) hb) (Kd.N_below (by (with_reducible repeat (first | apply Kd.N_alloc | apply Kd.N_drewN | apply Kd.N_drew)); exact HO895.out) hb) (tQ BK891.out hb) (tQ BK892.out hb) (bQT tB hb) ?_; clear HO1 HO895 BK891 BK892 HB; intro HO1 HO895 BK891 BK892 HB; (try clear hb); (try clear hb2); (try clear hk); (try clear hi); have hcz16_0 : w15.cell? ⟨gb891, 0, none⟩ = some (.int .i64 a0_0) := (kQC BK891.out 0).trans rfl; have hcz16_1 : w15.cell? ⟨gb891, 1, none⟩ = some (.int .i64 a0_1) := (kQC BK891.out 1).trans rfl; have hfz16_0 := kQF BK891.out 0; have hfz16_1 := kQF BK891.out 1) | ((with_reducible refine gQc (f := 54) rfl ?_); refine goesL_ (some 15) rfl rfl Try.func54 (by kernel_rfl) rfl #[.agg #[.int .i64 a0_0, .int .i64 a0_1]] rfl tL ?_; (with_reducible refine (impl_Field_all.calls k a0_0 a0_1 t897 _ A5.out).mono ?_); rintro e w17 ⟨v898, rfl, ho0, hb⟩; refine ⟨_, rfl, ?_⟩; refine qM6 (Kd.V_elder' (by (with_reducible repeat (first | apply Kd.V_alloc | apply Kd.V_drewN | apply Kd.V_drew)); exact HO1.out) (Kd.R_base ho0) hb) (Kd.N_elder' (by (with_reducible repeat (first | apply Kd.N_alloc | apply Kd.N_drewN | apply Kd.N_drew)); exact HO895.out) (Kd.R_base ho0) hb) (Kd.R_lower (Kd.R_newM (M := fun k_ => (w.heap.size ≤ k_)) ho0 (bQZ tB) (fun k_ h_ => h_)) (bQZ tB)) (tQ BK891.out hb) (tQ BK892.out hb) (bQT tB hb) ?_; clear HO1 HO895 BK891 BK892 HB; intro HO1 HO895 HO899 BK891 BK892 HB; (try clear hb); (try clear hb2); (try clear hk); (try clear hi); (try clear ho0); obtain ⟨Ao18, co18, eo18⟩ := Kd.R_slice HO899.out; subst eo18) | ((with_reducible refine gQc (f := 53) rfl ?_); refine goesL_ (some 17) rfl rfl Try.func53 (by kernel_rfl) rfl #[.slice Ao18 t897.length co18, .func (.func 55) #[] #[.pointer (some ⟨gb891, 0, none⟩), .pointer (some ⟨gb892, 0, none⟩)]] rfl tL ?_; (with_reducible refine (slices_DeleteFunc_int64_int64_AT_impl_RootsOf_1.calls k (fun k_ => some k_ = (.slice Ao18 t897.length co18 : Value).ownBlock) (.slice Ao18 t897.length co18) t897 (⟨gb891, 0, none⟩ : Addr) (⟨gb892, 0, none⟩ : Addr) a0_0 a0_1 A1 c1 l1 t900 w _ ?s1 ?s2 ?s3 ?s4 ?s5 ?s6 ?s7 ?s8 A6.out).mono ?_); (case s1 => exact tB); (case s2 => exact Kd.R_tight rfl HO899.out); (case s3 => exact Kd.C_kept_ownV (HO1.out) (fun k_ hk_ hs_ => (hk_.2) hs_)); (case s4 => exact (Kd.V_reads' HO1.out).2.1); (case s5 => exact AtC.of_blk (g := gb891) (t := 27) (cs := #[.int .i64 a0_0, .int .i64 a0_1]) (tG BK891.out) rfl); (case s6 => exact fun hs_ => (fun e_ => absurd e_ (Kd.R_ne HO899.out BK891.out (by decide))) hs_); (case s7 => exact AtC.of_blk (g := gb892) (t := 24) (cs := #[.slice A1 l1.length c1]) (tG BK892.out) rfl); (case s8 => exact fun hs_ => (fun e_ => absurd e_ (Kd.R_ne HO899.out BK892.out (by decide))) hs_); rintro e w19 ⟨v901, rfl, ho0, hb, hkp⟩; refine ⟨_, rfl, ?_⟩; refine qM6 (Kd.V_mono (ok' := fun k_ => (P1_ k_ ∨ w.heap.size ≤ k_) ∧ some k_ ≠ (.slice Ao14 y893.length co14 : Value).ownBlock ∧ k_ ≠ gb891 ∧ k_ ≠ gb892 ∧ some k_ ≠ (v901 : Value).ownBlock) (Kd.V_keptB (HO1.out) hkp (fun k_ hk_ hs_ => (hk_.2) hs_)) (fun k_ hk_ => ⟨hk_.1.1.1.1.1, hk_.1.1.2, hk_.1.1.1.1.2, hk_.1.1.1.2, fun e_ => Or.elim (ho0.1 k_ e_.symm) (fun hs_ => hk_.2.1 hs_) (fun hn_ => Nat.not_le.2 hk_.2.2 hn_)⟩)) (blk_kept (tG BK891.out) hkp (fun hs_ => (fun e_ => (Kd.R_ne HO899.out BK891.out (by decide)) e_) hs_)) (blk_kept (tG BK892.out) hkp (fun hs_ => (fun e_ => (Kd.R_ne HO899.out BK892.out (by decide)) e_) hs_)) (Kd.N_mono (ok' := fun k_ => (P1_ k_ ∨ w.heap.size ≤ k_) ∧ k_ ≠ gb891 ∧ k_ ≠ gb892 ∧ some k_ ≠ (v901 : Value).ownBlock) (Kd.N_keptB (HO895.out) hkp (fun k_ hk_ hs_ => (hk_.2) hs_)) (fun k_ hk_ => ⟨hk_.1.1.1, hk_.1.1.2.1, hk_.1.1.2.2, fun e_ => Or.elim (ho0.1 k_ e_.symm) (fun hs_ => hk_.2.1 hs_) (fun hn_ => Nat.not_le.2 hk_.2.2 hn_)⟩)) (Kd.R_mono (ok' := fun k_ => (w.heap.size ≤ k_)) ho0 (fun k_ hk_ => Or.elim hk_ (fun hs_ => (HO899.out.1 k_ (hs_).symm).1) (fun hn_ => (Nat.le_trans (bQZ tB) hn_)))) hb ?_; clear HO1 BK891 BK892 HO895 HB HO899; intro HO1 BK891 BK892 HO895 HO902 HB; (try clear hb); (try clear hkp); (try clear ho0)))
 go_ret2
 exact ⟨_, tE, tR HO902.out, tB⟩
def impl_size_int64.f (l0 : List Int) : Option (Int) := some (l0.length : Int)
theorem impl_size_int64.calls (A0 : Option Addr) (c0 : Nat) (l0 : List Int) (r : Int) (w : World) (hr0 : Kd.C (Kd.int .i64) w A0 l0.length l0) (hc0 : l0.length ≤ c0) (h : impl_size_int64.f l0 = some r) :
 Calls Try.prog 56 #[.slice A0 l0.length c0] w fun e w' => e = .returned (.int .i64 r) ∧ Dq w w' := by
 have HR0 := Aq.mk hr0
 have HC0 := Aq.mk hc0
 clear hr0 hc0
 have H : (some (l0.length : Int)) = some r := h
 clear h
 obtain rfl := Option.some.inj H
 go_enter Try.func56, Try.ntmps56
 go_wp2
 go_ret
 exact ⟨tS, tD⟩
def impl_echelon_1.f (a0 : Int) (a1_0 : Int) : Option (Bool) := if 0 ≤ a1_0 then (some ((Go.bits .and .i64 (shr .i64 a0 a1_0) 1) == 1)) else (none)
theorem impl_echelon_1.calls (a0 : Int) (g1_0 : Addr) (a1_0 : Int) (r : Bool) (w : World) (hb1_0 : AtC w g1_0 [.int .i64 a1_0]) (h : impl_echelon_1.f a0 a1_0 = some r) :
 Calls Try.prog 92 #[.int .i64 a0, .pointer (some g1_0)] w fun e w' => e = .returned (.bool r) ∧ Dq w w' := by
 have BK48 := Aq.mk hb1_0
 clear hb1_0
 have H : (if 0 ≤ a1_0 then (some ((Go.bits .and .i64 (shr .i64 a0 a1_0) 1) == 1)) else (none)) = some r := h
 clear h
 by_cases c3 : 0 ≤ a1_0
 rotate_left
 ·rw [if_neg c3] at H
  exact absurd H (by simp)
 rw [if_pos c3] at H
 have c3b0 := eq_true c3
 have c3b1 := decide_eq_true c3
 clear c3
 obtain ⟨ji4, hji4⟩ : ∃ j_ : Int, (shr .i64 a0 a1_0) = j_ := ⟨_, rfl⟩
 first | rw [hji4] at H | simp only [hji4] at H | skip
 have hji4_ : (a0 / 2 ^ min a1_0.toNat 64) = ji4 := hji4
 have hji4z : a1_0 ≤ 64 → (a0 / 2 ^ a1_0.toNat) = ji4 := shr_small hji4
 obtain rfl := Option.some.inj H
 have hcz5_0 : w.cell? g1_0 = some (.int .i64 a1_0) := AtC.cell0 BK48.out _ rfl
 go_enter Try.func92, Try.ntmps92
 go_wp2
 go_ret
 exact ⟨by first | rfl | (simp; done) | (simp only [← hji4] <;> (first | rfl | simp)) | (simp [*]; done), tD⟩
end Go.Proofs.Ytkhjoomjjdgkjaa.P
