/- Functions of the program and what they tell, as the printing program wrote it. -/
import Derived.Test.YthjfilmdobkmlaaPx0
import Derived.Test.YthjfilmdobkmlaaPx1
import Derived.Test.YthjfilmdobkmlaaPx2
import Derived.Test.YthjfilmdobkmlaaPx4
import Derived.Test.YthjfilmdobkmlaaPx10
import Derived.Test.YthjfilmdobkmlaaPx11
namespace Go.Proofs.Ythjfilmdobkmlaa.P
open Go.Shelf Go.RowKit Go.Proofs.YthjfilmdobkmlaaW.PrintWords Go.Proofs.YthjfilmdobkmlaaW.PrintLast Go.Proofs.YthjfilmdobkmlaaW.PrintMore
attribute [local go_sem] max2_int min2_int max_two min_two max_three min_three max_four min_four
set_option linter.unusedVariables false
set_option linter.unusedSimpArgs false
set_option maxHeartbeats 8000000
set_option maxRecDepth 100000
mutual
def impl_SendThrough.j0 : Nat → Bool → Int → List Int → Int → List Int → Int → List Int → Option (Int × List Int × Int)
  | 0, _, _, _, _, _, _, _ => none
  | k + 1, x8, x814000, x814001, x815000, x815001, x816000, x816001 => if x8 = true then (some (0, ([] : List Int), 1)) else (if (x814001.length : Int) > 0 then ((impl_size_int64.f x814001).bind fun t820 => (if x815000 = t820 then (impl_SendThrough.j1 k (x816000 != x814000) x814000 x814001 x815000 x815001 x816000 x816001) else (impl_SendThrough.j1 k true x814000 x814001 x815000 x815001 x816000 x816001))) else (impl_SendThrough.j1 k (x816000 != x814000) x814000 x814001 x815000 x815001 x816000 x816001))
def impl_SendThrough.j1 : Nat → Bool → Int → List Int → Int → List Int → Int → List Int → Option (Int × List Int × Int)
  | 0, _, _, _, _, _, _, _ => none
  | k + 1, x23, x814000, x814001, x815000, x815001, x816000, x816001 => if x23 = true then (some (0, ([] : List Int), 2)) else (if (x814001.length : Int) = 0 then ((impl_Matrix_form.f k x816000 x816001).bind fun bt821 => (some (bt821.1, bt821.2, 0))) else ((impl_Matrix_mul.f k x815000 x815001 x814000 x814001).bind fun bt825 => ((impl_Matrix_sum.f k bt825.1 bt825.2 x816000 x816001).bind fun bt829 => (some (bt829.1, bt829.2, 0)))))
end
def impl_SendThrough.f (k : Nat) (a0_0 : Int) (l0_1 : List Int) (a1_0 : Int) (l1_1 : List Int) (a2_0 : Int) (l2_1 : List Int) : Option (Int × List Int × Int) := (impl_IsSpace.f k a0_0 l0_1).bind fun t817 => (if t817 = true then ((impl_ValidMatrix.f k a1_0 l1_1).bind fun t818 => (if t818 = true then ((impl_ValidMatrix.f k a2_0 l2_1).bind fun t819 => (impl_SendThrough.j0 k (!t819) a0_0 l0_1 a1_0 l1_1 a2_0 l2_1)) else (impl_SendThrough.j0 k true a0_0 l0_1 a1_0 l1_1 a2_0 l2_1))) else (impl_SendThrough.j0 k true a0_0 l0_1 a1_0 l1_1 a2_0 l2_1))
theorem impl_SendThrough.mono_l : ∀ k, (∀ y0 y1 y2 y3 y4 y5 y6, LeO (impl_SendThrough.j0 k y0 y1 y2 y3 y4 y5 y6) (impl_SendThrough.j0 (k + 1) y0 y1 y2 y3 y4 y5 y6)) ∧ (∀ y0 y1 y2 y3 y4 y5 y6, LeO (impl_SendThrough.j1 k y0 y1 y2 y3 y4 y5 y6) (impl_SendThrough.j1 (k + 1) y0 y1 y2 y3 y4 y5 y6))
 | 0 => ⟨fun _ _ _ _ _ _ _ r h => by simp [impl_SendThrough.j0] at h, fun _ _ _ _ _ _ _ r h => by simp [impl_SendThrough.j1] at h⟩
 | k + 1 => by
  obtain ⟨ih0, ih1⟩ := impl_SendThrough.mono_l k
  refine ⟨?_, ?_⟩ <;> intros <;> first | unfold impl_SendThrough.j0 | unfold impl_SendThrough.j1
  all_goals repeat' first
   | (with_reducible first | apply ih0 | apply ih1 | apply impl_IsSpace.mono | apply impl_Matrix_form.mono | apply impl_Matrix_mul.mono | apply impl_Matrix_sum.mono | apply impl_ValidMatrix.mono | exact LeO.refl _ | exact LeO.none _ | refine LeO.ite ?_ ?_ | refine LeO.bind ?_ (fun _ => ?_))
   | exact LeO.none _
   | refine LeO.ite ?_ ?_
   | refine LeO.bind ?_ (fun _ => ?_)
theorem impl_SendThrough.mono : ∀ a0 a1 a2 a3 a4 a5 k, LeO (impl_SendThrough.f k a0 a1 a2 a3 a4 a5) (impl_SendThrough.f (k + 1) a0 a1 a2 a3 a4 a5) := by
 intro a0 a1 a2 a3 a4 a5 k
 obtain ⟨ih0, ih1⟩ := impl_SendThrough.mono_l k
 unfold impl_SendThrough.f
 repeat' first
  | (with_reducible first | apply ih0 | apply ih1 | apply impl_IsSpace.mono | apply impl_Matrix_form.mono | apply impl_Matrix_mul.mono | apply impl_Matrix_sum.mono | apply impl_ValidMatrix.mono | exact LeO.refl _ | exact LeO.none _ | refine LeO.ite ?_ ?_ | refine LeO.bind ?_ (fun _ => ?_))
  | exact LeO.none _
  | refine LeO.ite ?_ ?_
  | refine LeO.bind ?_ (fun _ => ?_)
def impl_SendThrough.T3 : Bool × List (List Nat × List Nat) := (true, [([], []), ([0], [0]), ([1], [1]), ([2], [2]), ([3], [3]), ([4], [4]), ([5, 4], [4, 5]), ([4], [4]), ([7, 4], [4, 7]), ([8, 4, 4], [4, 8]), ([6, 9, 4], [4, 6, 9]), ([4, 10], [4, 10]), ([11, 9], [11]), ([12], [12]), ([13, 12], [12, 13]), ([12], [12]), ([15, 12], [12, 15]), ([14, 16, 12], [12, 14, 16]), ([12, 17], [12, 17]), ([18, 12], [18])])
def impl_SendThrough.B3 : List Nat := [0, 1, 3, 7, 15, 31, 63, 31, 159, 415, 1023, 2047, 4095, 8191, 16383, 8191, 40959, 131071, 262143, 524287]
theorem impl_SendThrough.tab3 : rtab .any (opsOf Try.f34 3) = impl_SendThrough.T3 := by kernel_rfl
theorem impl_SendThrough.bits3 : waitsOk impl_SendThrough.T3.2 impl_SendThrough.B3 = true := by kernel_rfl
theorem impl_SendThrough.calls (k : Nat) (a0_0 : Int) (A0_1 : Option Addr) (c0_1 : Nat) (l0_1 : List Int) (a1_0 : Int) (A1_1 : Option Addr) (c1_1 : Nat) (l1_1 : List Int) (a2_0 : Int) (A2_1 : Option Addr) (c2_1 : Nat) (l2_1 : List Int) (r1 : Int) (r2 : List Int) (r3 : Int) (w : World) (hr0_1 : Kd.C (Kd.int .i64) w A0_1 l0_1.length l0_1) (hc0_1 : l0_1.length ≤ c0_1) (hr1_1 : Kd.C (Kd.int .i64) w A1_1 l1_1.length l1_1) (hc1_1 : l1_1.length ≤ c1_1) (hr2_1 : Kd.C (Kd.int .i64) w A2_1 l2_1.length l2_1) (hc2_1 : l2_1.length ≤ c2_1) (h : impl_SendThrough.f k a0_0 l0_1 a1_0 l1_1 a2_0 l2_1 = some (r1, r2, r3)) :
 Calls Try.prog 34 #[.agg #[.int .i64 a0_0, .slice A0_1 l0_1.length c0_1], .agg #[.int .i64 a1_0, .slice A1_1 l1_1.length c1_1], .agg #[.int .i64 a2_0, .slice A2_1 l2_1.length c2_1]] w fun e w' => ∃ v1_ : Value, e = .returned (.tuple #[.agg #[.int .i64 r1, v1_], .int .i64 r3]) ∧ Kd.R (Kd.int .i64) 2 w' w.heap.size (fun _ => True) v1_ r2 ∧ Below w.heap.size w w' := by
 have hu27 := Try.underlying27
 have HR0_1 := Aq.mk hr0_1
 have HC0_1 := Aq.mk hc0_1
 clear hr0_1 hc0_1
 have HR1_1 := Aq.mk hr1_1
 have HC1_1 := Aq.mk hc1_1
 clear hr1_1 hc1_1
 have HR2_1 := Aq.mk hr2_1
 have HC2_1 := Aq.mk hc2_1
 clear hr2_1 hc2_1
 have HB := Aq.mk (Below.refl w.heap.size w)
 have H : ((impl_IsSpace.f k a0_0 l0_1).bind fun t817 => (if t817 = true then ((impl_ValidMatrix.f k a1_0 l1_1).bind fun t818 => (if t818 = true then ((impl_ValidMatrix.f k a2_0 l2_1).bind fun t819 => (impl_SendThrough.j0 k (!t819) a0_0 l0_1 a1_0 l1_1 a2_0 l2_1)) else (impl_SendThrough.j0 k true a0_0 l0_1 a1_0 l1_1 a2_0 l2_1))) else (impl_SendThrough.j0 k true a0_0 l0_1 a1_0 l1_1 a2_0 l2_1))) = some (r1, r2, r3) := h
 clear h
 have HC4 := Aq.mk H
 clear H
 go_enter Try.func34, Try.ntmps34
 go_upto_region 1 with (first | ((with_reducible refine gQd (N := 3) rfl ?_); refine xQe ?hg (N := 3) ?hd (cs := #[.int .i64 a0_0, .slice A0_1 l0_1.length c0_1]) (t := 27) ?hr ?_; (case hd => rfl); (case hg => rfl); (case hr => exact tH); intro gb813 hg w5 hbox hb; refine qM4 (bQT tB hb) hbox (tZ w hg) (tZ w hg) ?_; clear HB; intro HB BK813 GW813 GE813; clear hb hbox hg) | ((with_reducible refine gQd (N := 4) rfl ?_); refine xQe ?hg (N := 4) ?hd (cs := #[.int .i64 a1_0, .slice A1_1 l1_1.length c1_1]) (t := 27) ?hr ?_; (case hd => rfl); (case hg => rfl); (case hr => exact tH); intro gb814 hg w6 hbox hb; refine qM7 (tQ BK813.out hb) (bQT tB hb) hbox (tZ w hg) (tZ w hg) ((by rw [hg]; exact Nat.ne_of_lt (blk_lt (g := gb813) (o := .cells #[.int .i64 a0_0, .slice A0_1 l0_1.length c0_1] 27 (0, 0)) (tG BK813.out)) : gb813 ≠ gb814)) ((by rw [hg]; exact Nat.ne_of_gt (blk_lt (g := gb813) (o := .cells #[.int .i64 a0_0, .slice A0_1 l0_1.length c0_1] 27 (0, 0)) (tG BK813.out)) : gb814 ≠ gb813)) ?_; clear BK813 HB; intro BK813 HB BK814 GW814 GE814 NB813_814 NB814_813; clear hb hbox hg) | ((with_reducible refine gQd (N := 5) rfl ?_); refine xQe ?hg (N := 5) ?hd (cs := #[.int .i64 a2_0, .slice A2_1 l2_1.length c2_1]) (t := 27) ?hr ?_; (case hd => rfl); (case hg => rfl); (case hr => exact tH); intro gb815 hg w7 hbox hb; refine qM10 (tQ BK813.out hb) (tQ BK814.out hb) (bQT tB hb) hbox (tZ w hg) (tZ w hg) ((by rw [hg]; exact Nat.ne_of_lt (blk_lt (g := gb813) (o := .cells #[.int .i64 a0_0, .slice A0_1 l0_1.length c0_1] 27 (0, 0)) (tG BK813.out)) : gb813 ≠ gb815)) ((by rw [hg]; exact Nat.ne_of_gt (blk_lt (g := gb813) (o := .cells #[.int .i64 a0_0, .slice A0_1 l0_1.length c0_1] 27 (0, 0)) (tG BK813.out)) : gb815 ≠ gb813)) ((by rw [hg]; exact Nat.ne_of_lt (blk_lt (g := gb814) (o := .cells #[.int .i64 a1_0, .slice A1_1 l1_1.length c1_1] 27 (0, 0)) (tG BK814.out)) : gb814 ≠ gb815)) ((by rw [hg]; exact Nat.ne_of_gt (blk_lt (g := gb814) (o := .cells #[.int .i64 a1_0, .slice A1_1 l1_1.length c1_1] 27 (0, 0)) (tG BK814.out)) : gb815 ≠ gb814)) ?_; clear BK813 BK814 HB; intro BK813 BK814 HB BK815 GW815 GE815 NB813_815 NB815_813 NB814_815 NB815_814; clear hb hbox hg) | ((with_reducible refine gQd (N := 6) rfl ?_); refine xQe ?hg (N := 6) ?hd (cs := #[.int .i64 0, .slice none 0 0]) (t := 27) ?hr ?_; (case hd => rfl); (case hg => rfl); (case hr => exact tH); intro gb816 hg w8 hbox hb; refine qM13 (tQ BK813.out hb) (tQ BK814.out hb) (tQ BK815.out hb) (bQT tB hb) hbox (tZ w hg) (tZ w hg) ((by rw [hg]; exact Nat.ne_of_lt (blk_lt (g := gb813) (o := .cells #[.int .i64 a0_0, .slice A0_1 l0_1.length c0_1] 27 (0, 0)) (tG BK813.out)) : gb813 ≠ gb816)) ((by rw [hg]; exact Nat.ne_of_gt (blk_lt (g := gb813) (o := .cells #[.int .i64 a0_0, .slice A0_1 l0_1.length c0_1] 27 (0, 0)) (tG BK813.out)) : gb816 ≠ gb813)) ((by rw [hg]; exact Nat.ne_of_lt (blk_lt (g := gb814) (o := .cells #[.int .i64 a1_0, .slice A1_1 l1_1.length c1_1] 27 (0, 0)) (tG BK814.out)) : gb814 ≠ gb816)) ((by rw [hg]; exact Nat.ne_of_gt (blk_lt (g := gb814) (o := .cells #[.int .i64 a1_0, .slice A1_1 l1_1.length c1_1] 27 (0, 0)) (tG BK814.out)) : gb816 ≠ gb814)) ((by rw [hg]; exact Nat.ne_of_lt (blk_lt (g := gb815) (o := .cells #[.int .i64 a2_0, .slice A2_1 l2_1.length c2_1] 27 (0, 0)) (tG BK815.out)) : gb815 ≠ gb816)) ((by rw [hg]; exact Nat.ne_of_gt (blk_lt (g := gb815) (o := .cells #[.int .i64 a2_0, .slice A2_1 l2_1.length c2_1] 27 (0, 0)) (tG BK815.out)) : gb816 ≠ gb815)) ?_; clear BK813 BK814 BK815 HB; intro BK813 BK814 BK815 HB BK816 GW816 GE816 NB813_816 NB816_813 NB814_816 NB816_814 NB815_816 NB816_815; clear hb hbox hg))
 (try simp only [Act.put, qSa, qSb, qSc])
 go_cut [8] (fun v8 wc => ∃ (kq : Nat) (x8_3 : Bool), v8 = .bool x8_3 ∧ Aq (impl_SendThrough.j0 kq x8_3 a0_0 l0_1 a1_0 l1_1 a2_0 l2_1 = some (r1, r2, r3)) ∧ Aq (kq ≤ k) ∧ Aq (wc.heap[gb813]? = some (.cells #[.int .i64 a0_0, (.slice A0_1 l0_1.length c0_1)] 27 (0, 0))) ∧ Aq (wc.heap[gb814]? = some (.cells #[.int .i64 a1_0, (.slice A1_1 l1_1.length c1_1)] 27 (0, 0))) ∧ Aq (wc.heap[gb815]? = some (.cells #[.int .i64 a2_0, (.slice A2_1 l2_1.length c2_1)] 27 (0, 0))) ∧ Aq (wc.heap[gb816]? = some (.cells #[.int .i64 0, (.slice none 0 0)] 27 (0, 0))) ∧ Aq (Below w.heap.size w wc))
 case first =>
  have H := HC4.out
  clear HC4
  obtain ⟨t817, A9, H⟩ := qBd H
  by_cases c10 : t817 = true
  rotate_left
  ·replace c10 := Bool.eq_false_iff.mpr c10
   subst c10
   rw [if_neg (show ¬ (false = true) by decide)] at H
   replace H' := Aq.mk H
   clear H
   have hnb35 := NB813_814.out
   have hnc35 := NB814_813.out
   have hnb36 := NB813_815.out
   have hnc36 := NB815_813.out
   have hnb37 := NB813_816.out
   have hnc37 := NB816_813.out
   have hcz38_0 : w8.cell? ⟨gb813, 0, none⟩ = some (.int .i64 a0_0) := (kQC BK813.out 0).trans rfl
   have hcz38_1 : w8.cell? ⟨gb813, 1, none⟩ = some (.slice A0_1 l0_1.length c0_1) := (kQC BK813.out 1).trans rfl
   have hfz38_0 := kQF BK813.out 0
   have hfz38_1 := kQF BK813.out 1
   go_wp2_with (first | ((with_reducible refine gQc (f := 13) rfl ?_); refine goesL_ (some 10) rfl rfl Try.func13 (by kernel_rfl) rfl #[.agg #[.int .i64 a0_0, .slice A0_1 l0_1.length c0_1]] rfl tL ?_; (with_reducible refine (impl_IsSpace.calls k a0_0 _ _ l0_1 false _ ?s1 ?s2 A9.out).mono ?_); (case s1 => exact tC ((Kd.C_below HR0_1.out HB.out))); (case s2 => exact HC0_1.out); rintro e w39 ⟨rfl, hb⟩; refine ⟨_, rfl, ?_⟩; refine qM5 (tQ BK813.out hb) (tQ BK814.out hb) (tQ BK815.out hb) (tQ BK816.out hb) (bQT tB hb) ?_; clear BK813 BK814 BK815 BK816 HB; intro BK813 BK814 BK815 BK816 HB; (try clear hb); (try clear hb2); (try clear hk); (try clear hi)))
   go_meet
   case rel => exact ⟨_, (true), tS, H', ⟨tO⟩, ⟨tG BK813.out⟩, ⟨tG BK814.out⟩, ⟨tG BK815.out⟩, ⟨tG BK816.out⟩, ⟨tB⟩⟩
  subst c10
  rw [if_pos rfl] at H
  obtain ⟨t818, A11, H⟩ := qBd H
  by_cases c12 : t818 = true
  ·subst c12
   rw [if_pos rfl] at H
   obtain ⟨t819, A13, H⟩ := qBd H
   replace H' := Aq.mk H
   clear H
   have hnb14 := NB813_814.out
   have hnc14 := NB814_813.out
   have hnb15 := NB813_815.out
   have hnc15 := NB815_813.out
   have hnb16 := NB813_816.out
   have hnc16 := NB816_813.out
   have hcz17_0 : w8.cell? ⟨gb813, 0, none⟩ = some (.int .i64 a0_0) := (kQC BK813.out 0).trans rfl
   have hcz17_1 : w8.cell? ⟨gb813, 1, none⟩ = some (.slice A0_1 l0_1.length c0_1) := (kQC BK813.out 1).trans rfl
   have hfz17_0 := kQF BK813.out 0
   have hfz17_1 := kQF BK813.out 1
   go_wp2_with (first | ((with_reducible refine gQc (f := 13) rfl ?_); refine goesL_ (some 10) rfl rfl Try.func13 (by kernel_rfl) rfl #[.agg #[.int .i64 a0_0, .slice A0_1 l0_1.length c0_1]] rfl tL ?_; (with_reducible refine (impl_IsSpace.calls k a0_0 _ _ l0_1 true _ ?s1 ?s2 A9.out).mono ?_); (case s1 => exact tC ((Kd.C_below HR0_1.out HB.out))); (case s2 => exact HC0_1.out); rintro e w18 ⟨rfl, hb⟩; refine ⟨_, rfl, ?_⟩; refine qM5 (tQ BK813.out hb) (tQ BK814.out hb) (tQ BK815.out hb) (tQ BK816.out hb) (bQT tB hb) ?_; clear BK813 BK814 BK815 BK816 HB; intro BK813 BK814 BK815 BK816 HB; (try clear hb); (try clear hb2); (try clear hk); (try clear hi); have hnb19 := NB814_815.out; have hnc19 := NB815_814.out; have hnb20 := NB814_816.out; have hnc20 := NB816_814.out; have hcz21_0 : w18.cell? ⟨gb814, 0, none⟩ = some (.int .i64 a1_0) := (kQC BK814.out 0).trans rfl; have hcz21_1 : w18.cell? ⟨gb814, 1, none⟩ = some (.slice A1_1 l1_1.length c1_1) := (kQC BK814.out 1).trans rfl; have hfz21_0 := kQF BK814.out 0; have hfz21_1 := kQF BK814.out 1) | (go_at_call 40; (with_reducible refine (impl_ValidMatrix.calls k a1_0 _ _ l1_1 true _ ?s1 ?s2 A11.out).mono ?_); (case s1 => exact tC ((Kd.C_below HR1_1.out HB.out))); (case s2 => exact HC1_1.out); rintro e w22 ⟨rfl, hb⟩; refine qM5 (tQ BK813.out hb) (tQ BK814.out hb) (tQ BK815.out hb) (tQ BK816.out hb) (bQT tB hb) ?_; clear BK813 BK814 BK815 BK816 HB; intro BK813 BK814 BK815 BK816 HB; (try clear hb); (try clear hb2); (try clear hk); (try clear hi); have hnb23 := NB815_816.out; have hnc23 := NB816_815.out; have hcz24_0 : w22.cell? ⟨gb815, 0, none⟩ = some (.int .i64 a2_0) := (kQC BK815.out 0).trans rfl; have hcz24_1 : w22.cell? ⟨gb815, 1, none⟩ = some (.slice A2_1 l2_1.length c2_1) := (kQC BK815.out 1).trans rfl; have hfz24_0 := kQF BK815.out 0; have hfz24_1 := kQF BK815.out 1) | (go_at_call 40; (with_reducible refine (impl_ValidMatrix.calls k a2_0 _ _ l2_1 t819 _ ?s1 ?s2 A13.out).mono ?_); (case s1 => exact tC ((Kd.C_below HR2_1.out HB.out))); (case s2 => exact HC2_1.out); rintro e w25 ⟨rfl, hb⟩; refine qM5 (tQ BK813.out hb) (tQ BK814.out hb) (tQ BK815.out hb) (tQ BK816.out hb) (bQT tB hb) ?_; clear BK813 BK814 BK815 BK816 HB; intro BK813 BK814 BK815 BK816 HB; (try clear hb); (try clear hb2); (try clear hk); (try clear hi)))
   go_meet
   case rel => exact ⟨_, (!t819), tS, H', ⟨tO⟩, ⟨tG BK813.out⟩, ⟨tG BK814.out⟩, ⟨tG BK815.out⟩, ⟨tG BK816.out⟩, ⟨tB⟩⟩
  replace c12 := Bool.eq_false_iff.mpr c12
  subst c12
  rw [if_neg (show ¬ (false = true) by decide)] at H
  replace H' := Aq.mk H
  clear H
  have hnb26 := NB813_814.out
  have hnc26 := NB814_813.out
  have hnb27 := NB813_815.out
  have hnc27 := NB815_813.out
  have hnb28 := NB813_816.out
  have hnc28 := NB816_813.out
  have hcz29_0 : w8.cell? ⟨gb813, 0, none⟩ = some (.int .i64 a0_0) := (kQC BK813.out 0).trans rfl
  have hcz29_1 : w8.cell? ⟨gb813, 1, none⟩ = some (.slice A0_1 l0_1.length c0_1) := (kQC BK813.out 1).trans rfl
  have hfz29_0 := kQF BK813.out 0
  have hfz29_1 := kQF BK813.out 1
  go_wp2_with (first | ((with_reducible refine gQc (f := 13) rfl ?_); refine goesL_ (some 10) rfl rfl Try.func13 (by kernel_rfl) rfl #[.agg #[.int .i64 a0_0, .slice A0_1 l0_1.length c0_1]] rfl tL ?_; (with_reducible refine (impl_IsSpace.calls k a0_0 _ _ l0_1 true _ ?s1 ?s2 A9.out).mono ?_); (case s1 => exact tC ((Kd.C_below HR0_1.out HB.out))); (case s2 => exact HC0_1.out); rintro e w30 ⟨rfl, hb⟩; refine ⟨_, rfl, ?_⟩; refine qM5 (tQ BK813.out hb) (tQ BK814.out hb) (tQ BK815.out hb) (tQ BK816.out hb) (bQT tB hb) ?_; clear BK813 BK814 BK815 BK816 HB; intro BK813 BK814 BK815 BK816 HB; (try clear hb); (try clear hb2); (try clear hk); (try clear hi); have hnb31 := NB814_815.out; have hnc31 := NB815_814.out; have hnb32 := NB814_816.out; have hnc32 := NB816_814.out; have hcz33_0 : w30.cell? ⟨gb814, 0, none⟩ = some (.int .i64 a1_0) := (kQC BK814.out 0).trans rfl; have hcz33_1 : w30.cell? ⟨gb814, 1, none⟩ = some (.slice A1_1 l1_1.length c1_1) := (kQC BK814.out 1).trans rfl; have hfz33_0 := kQF BK814.out 0; have hfz33_1 := kQF BK814.out 1) | (go_at_call 40; (with_reducible refine (impl_ValidMatrix.calls k a1_0 _ _ l1_1 false _ ?s1 ?s2 A11.out).mono ?_); (case s1 => exact tC ((Kd.C_below HR1_1.out HB.out))); (case s2 => exact HC1_1.out); rintro e w34 ⟨rfl, hb⟩; refine qM5 (tQ BK813.out hb) (tQ BK814.out hb) (tQ BK815.out hb) (tQ BK816.out hb) (bQT tB hb) ?_; clear BK813 BK814 BK815 BK816 HB; intro BK813 BK814 BK815 BK816 HB; (try clear hb); (try clear hb2); (try clear hk); (try clear hi)))
  go_meet
  case rel => exact ⟨_, (true), tS, H', ⟨tO⟩, ⟨tG BK813.out⟩, ⟨tG BK814.out⟩, ⟨tG BK815.out⟩, ⟨tG BK816.out⟩, ⟨tB⟩⟩
 clear HC4
 try clear c10
 try clear c12
 try clear hcz17_0
 try clear hcz17_1
 try clear hcz21_0
 try clear hcz21_1
 try clear hcz24_0
 try clear hcz24_1
 try clear hcz29_0
 try clear hcz29_1
 try clear hcz33_0
 try clear hcz33_1
 try clear hcz38_0
 try clear hcz38_1
 try clear hfz17_0
 try clear hfz17_1
 try clear hfz21_0
 try clear hfz21_1
 try clear hfz24_0
 try clear hfz24_1
 try clear hfz29_0
 try clear hfz29_1
 try clear hfz33_0
 try clear hfz33_1
 try clear hfz38_0
 try clear hfz38_1
 obtain ⟨kq, x8_3, rfl, HA, HJ3, BK813, BK814, BK815, BK816, HB⟩ := hcut
 cases kq with
 | zero => exact absurd HA.out (by simp [impl_SendThrough.j0])
 | succ kj3 =>
  have H := HA.out
  clear HA
  simp only [impl_SendThrough.j0] at H
  by_cases c40 : x8_3 = true
  ·subst c40
   rw [if_pos rfl] at H
   simp only [Option.some.injEq, Prod.mk.injEq] at H
   obtain ⟨rfl, rfl, rfl⟩ := H
   have hnb41 := NB816_813.out
   have hnc41 := NB813_816.out
   have hnb42 := NB816_814.out
   have hnc42 := NB814_816.out
   have hnb43 := NB816_815.out
   have hnc43 := NB815_816.out
   have hcz44_0 : wc.cell? ⟨gb816, 0, none⟩ = some (.int .i64 0) := (kQC BK816.out 0).trans rfl
   have hcz44_1 : wc.cell? ⟨gb816, 1, none⟩ = some (.slice none 0 0) := (kQC BK816.out 1).trans rfl
   have hfz44_0 := kQF BK816.out 0
   have hfz44_1 := kQF BK816.out 1
   go_wp2
   refine bodyPost_ret (results_ct rfl _ _ gb816 27 #[.int .i64 0, .slice none 0 0] (0, 0) _ rfl (by (with_reducible repeat (first | refine kQN ?_ _ | refine kQD ?_ | refine kQA ?_ _)); refine kQP (cs := #[.int .i64 0, .slice none 0 0]) ?_ 1 _ rfl; (with_reducible repeat (first | refine kQN ?_ _ | refine kQD ?_ | refine kQA ?_ _)); refine kQP (cs := #[.int .i64 0, .slice none 0 0]) ?_ 0 _ rfl; (with_reducible repeat (first | refine kQN ?_ _ | refine kQD ?_ | refine kQA ?_ _)); exact BK816.out) Try.underlying27 rfl (by kernel_rfl)) rfl ?_
   exact ⟨_, tE, by first | exact Kd.R_nil _ _ _ _ _ | exact Kd.N_nil _ _ _ _ _ | exact Kd.V_nil _ _ _ _ _ | exact Kd.Q_nil _ _ _ _ _ | exact Kd.S_nil _ _ _ _ _, tB⟩
  replace c40 := Bool.eq_false_iff.mpr c40
  subst c40
  rw [if_neg (show ¬ (false = true) by decide)] at H
  have HC45 := Aq.mk H
  clear H
  go_upto_region 3 with (fail)
  go_cut [23] (fun v23 wc => ∃ (kq : Nat) (x23_44 : Bool), v23 = .bool x23_44 ∧ Aq (impl_SendThrough.j1 kq x23_44 a0_0 l0_1 a1_0 l1_1 a2_0 l2_1 = some (r1, r2, r3)) ∧ Aq (kq ≤ kj3) ∧ Aq (wc.heap[gb813]? = some (.cells #[.int .i64 a0_0, (.slice A0_1 l0_1.length c0_1)] 27 (0, 0))) ∧ Aq (wc.heap[gb814]? = some (.cells #[.int .i64 a1_0, (.slice A1_1 l1_1.length c1_1)] 27 (0, 0))) ∧ Aq (wc.heap[gb815]? = some (.cells #[.int .i64 a2_0, (.slice A2_1 l2_1.length c2_1)] 27 (0, 0))) ∧ Aq (wc.heap[gb816]? = some (.cells #[.int .i64 0, (.slice none 0 0)] 27 (0, 0))) ∧ Aq (Below w.heap.size w wc))
  case first =>
   have H := HC45.out
   clear HC45
   by_cases c46 : (l0_1.length : Int) > 0
   rotate_left
   ·rw [if_neg c46] at H
    have c46b0 := decide_eq_false c46
    have c46b1 : decide (0 < l0_1.length) = false := decide_eq_false (by omega)
    clear c46
    (first | rw [c46b0] | (simp only [i64_w, i32_w]; rw [c46b0]) | skip)
    replace H' := Aq.mk H
    clear H
    try go_wp2
    have n0_ := Aq.mk (kQD BK813.out)
    have n1_ := Aq.mk (kQD BK814.out)
    have n2_ := Aq.mk (kQD BK815.out)
    have n3_ := Aq.mk (kQD BK816.out)
    have n4_ := Aq.mk (bQ1 HB.out)
    clear BK813
    clear BK814
    clear BK815
    clear BK816
    clear HB
    have BK813 := n0_
    have BK814 := n1_
    have BK815 := n2_
    have BK816 := n3_
    have HB := n4_
    clear n0_ n1_ n2_ n3_ n4_
    refine start_ (n := 20) (S := fun w' => w'.cell? ⟨gb813, 0, none⟩ = some (.int .i64 a0_0) ∧ w'.cell? ⟨gb813, 1, none⟩ = some (.slice A0_1 l0_1.length c0_1) ∧ w'.cell? ⟨gb815, 0, none⟩ = some (.int .i64 a2_0) ∧ w'.cell? ⟨gb815, 1, none⟩ = some (.slice A2_1 l2_1.length c2_1)) (ds := []) #[false, false, false, false, false, false, false, false, false, false, false, false, false, false, false, false, false, false, false, false] (by kernel_rfl) rfl rfl ⟨(kQC BK813.out 0).trans rfl, (kQC BK813.out 1).trans rfl, (kQC BK815.out 0).trans rfl, (kQC BK815.out 1).trans rfl⟩ (fun hHeld => ?_); refine with_tabW impl_SendThrough.tab3 impl_SendThrough.bits3 (fun HT_ HW_ => ?_)
    generalize wc.drew = w51 at BK813 BK814 BK815 BK816 HB hHeld ⊢
    refine tP0 0 24 (bm 20 1) ?_
    refine tT4 1 25 (bm 20 3) ?_
    refine tP0 2 26 (bm 20 7) ?_
    refine tP0 3 27 (bm 20 15) ?_
    refine tP0 4 28 (bm 20 31) ?_
    refine pure_ (i := 5) (N := some 29) (v := undef) (a' := ?_) #[true, true, true, true, true, true, false, false, false, false, false, false, false, false, false, false, false, false, false, false] rfl rfl (any_of HT_.out (by kernel_rfl)) (fun _ _ _ h => h) (Or.inr ⟨by rfl, rfl⟩) ?_ ?_
    rotate_left
    ·simp only [Act.put, qSa, qSb, qSc, i64_w, i32_w]
     rfl
    refine pure_ (i := 6) (N := some 30) (v := undef) (a' := ?_) #[true, true, true, true, true, true, true, false, false, false, false, false, false, false, false, false, false, false, false, false] rfl rfl (any_of HT_.out (by kernel_rfl)) (fun _ _ _ h => h) (Or.inr ⟨by rfl, rfl⟩) ?_ ?_
    rotate_left
    ·simp only [Act.put, qSa, qSb, qSc, i64_w, i32_w]
     rfl
    refine pure_ (i := 7) (N := some 31) (v := undef) (a' := ?_) #[true, true, true, true, true, true, true, true, false, false, false, false, false, false, false, false, false, false, false, false] rfl rfl (any_of HT_.out (by kernel_rfl)) (fun _ _ _ h => h) (Or.inr ⟨by rfl, rfl⟩) ?_ ?_
    rotate_left
    ·simp only [Act.put, qSa, qSb, qSc, i64_w, i32_w]
     rfl
    refine pure_ (i := 8) (N := some 32) (v := undef) (a' := ?_) #[true, true, true, true, true, true, true, true, true, false, false, false, false, false, false, false, false, false, false, false] rfl rfl (any_of HT_.out (by kernel_rfl)) (fun _ _ _ h => h) (Or.inr ⟨by rfl, rfl⟩) ?_ ?_
    rotate_left
    ·simp only [Act.put, qSa, qSb, qSc, i64_w, i32_w]
     rfl
    refine pure_ (i := 9) (N := some 33) (v := undef) (a' := ?_) #[true, true, true, true, true, true, true, true, true, true, false, false, false, false, false, false, false, false, false, false] rfl rfl (any_of HT_.out (by kernel_rfl)) (fun _ _ _ h => h) (Or.inr ⟨by rfl, rfl⟩) ?_ ?_
    rotate_left
    ·simp only [Act.put, qSa, qSb, qSc, i64_w, i32_w]
     rfl
    refine pure_ (i := 10) (N := some 34) (v := undef) (a' := ?_) #[true, true, true, true, true, true, true, true, true, true, true, false, false, false, false, false, false, false, false, false] rfl rfl (any_of HT_.out (by kernel_rfl)) (fun _ _ _ h => h) (Or.inr ⟨by rfl, rfl⟩) ?_ ?_
    rotate_left
    ·simp only [Act.put, qSa, qSb, qSc, i64_w, i32_w]
     rfl
    refine tP0 11 35 (bm 20 4095) ?_
    refine tP0 12 36 (bm 20 8191) ?_
    refine tP0 13 37 (bm 20 16383) ?_
    refine tP0 15 39 (bm 20 49151) ?_
    refine tT4 14 38 (bm 20 65535) ?_
    refine tT4 16 40 (bm 20 131071) ?_
    refine tP0 17 41 (bm 20 262143) ?_
    refine tP0 18 42 (bm 20 524287) ?_
    refine tP0 19 23 (bm 20 1048575) ?_
    refine done_ (done_of HT_.out (by kernel_rfl)) ?_
    try go_wp2
    go_meet
    case rel => exact ⟨_, ((a2_0 != a0_0)), tS, H', ⟨by have := HJ3.out; first | omega | exact Nat.le_refl _⟩, ⟨tG BK813.out⟩, ⟨tG BK814.out⟩, ⟨tG BK815.out⟩, ⟨tG BK816.out⟩, ⟨tB⟩⟩
   rw [if_pos c46] at H
   have c46b0 := decide_eq_true c46
   have c46b1 : decide (0 < l0_1.length) = true := decide_eq_true (by omega)
   clear c46
   (first | rw [c46b0] | (simp only [i64_w, i32_w]; rw [c46b0]) | skip)
   obtain ⟨t820, A47, H⟩ := qBd H
   by_cases c48 : a1_0 = t820
   ·rw [if_pos c48] at H
    have c48b0 := beq_iff_eq.mpr c48
    have c48b1 := bne_eq_false_iff_eq.mpr c48
    clear c48
    replace H' := Aq.mk H
    clear H
    try go_wp2
    have n0_ := Aq.mk (kQD BK813.out)
    have n1_ := Aq.mk (kQD BK814.out)
    have n2_ := Aq.mk (kQD BK815.out)
    have n3_ := Aq.mk (kQD BK816.out)
    have n4_ := Aq.mk (bQ1 HB.out)
    clear BK813
    clear BK814
    clear BK815
    clear BK816
    clear HB
    have BK813 := n0_
    have BK814 := n1_
    have BK815 := n2_
    have BK816 := n3_
    have HB := n4_
    clear n0_ n1_ n2_ n3_ n4_
    refine start_ (n := 20) (S := fun w' => w'.cell? ⟨gb813, 0, none⟩ = some (.int .i64 a0_0) ∧ w'.cell? ⟨gb813, 1, none⟩ = some (.slice A0_1 l0_1.length c0_1) ∧ w'.cell? ⟨gb814, 0, none⟩ = some (.int .i64 a1_0) ∧ w'.cell? ⟨gb814, 1, none⟩ = some (.slice A1_1 l1_1.length c1_1) ∧ w'.cell? ⟨gb815, 0, none⟩ = some (.int .i64 a2_0) ∧ w'.cell? ⟨gb815, 1, none⟩ = some (.slice A2_1 l2_1.length c2_1)) (ds := []) #[false, false, false, false, false, false, false, false, false, false, false, false, false, false, false, false, false, false, false, false] (by kernel_rfl) rfl rfl ⟨(kQC BK813.out 0).trans rfl, (kQC BK813.out 1).trans rfl, (kQC BK814.out 0).trans rfl, (kQC BK814.out 1).trans rfl, (kQC BK815.out 0).trans rfl, (kQC BK815.out 1).trans rfl⟩ (fun hHeld => ?_); refine with_tabW impl_SendThrough.tab3 impl_SendThrough.bits3 (fun HT_ HW_ => ?_)
    generalize wc.drew = w49 at BK813 BK814 BK815 BK816 HB hHeld ⊢
    refine tP0 0 24 (bm 20 1) ?_
    refine tT6 1 25 (bm 20 3) ?_
    refine tP0 2 26 (bm 20 7) ?_
    refine tP0 3 27 (bm 20 15) ?_
    refine tP0 4 28 (bm 20 31) ?_
    refine tP0 5 29 (bm 20 63) ?_
    refine tP0 7 31 (bm 20 191) ?_
    refine tT6 6 30 (bm 20 255) ?_
    refine tT6 8 32 (bm 20 511) ?_
    refine one_ (i := 9) (N := some 33) (bm 20 1023) rfl rfl (one_of HT_.out (by kernel_rfl)) (by decide) (fun K hK => ?_)
    refine goes_ Try.func41 (by kernel_rfl) rfl #[.slice A0_1 l0_1.length c0_1] (by rfl) rfl rfl tL ?_
    with_reducible refine (impl_size_int64.calls _ _ l0_1 t820 _ ?s1 ?s2 A47.out).mono ?_
    (case s1 => exact tC ((Kd.C_below HR0_1.out HB.out)))
    (case s2 => exact HC0_1.out)
    rintro e w' ⟨rfl, ⟨nd, rfl⟩⟩
    refine ⟨_, rfl, ?_⟩
    refine hK.out _ _ ⟨(kQC BK813.out 0).trans rfl, (kQC BK813.out 1).trans rfl, (kQC BK814.out 0).trans rfl, (kQC BK814.out 1).trans rfl, (kQC BK815.out 0).trans rfl, (kQC BK815.out 1).trans rfl⟩ (fun hHeld => ?_)
    clear hK K
    refine tN 33 ?_
    refine tP0 10 34 (bm 20 2047) ?_
    refine tP0 11 35 (bm 20 4095) ?_
    refine tP0 12 36 (bm 20 8191) ?_
    refine tP0 13 37 (bm 20 16383) ?_
    refine tP0 15 39 (bm 20 49151) ?_
    refine tT6 14 38 (bm 20 65535) ?_
    refine tT6 16 40 (bm 20 131071) ?_
    refine tP0 17 41 (bm 20 262143) ?_
    refine tP0 18 42 (bm 20 524287) ?_
    refine tP0 19 23 (bm 20 1048575) ?_
    refine done_ (done_of HT_.out (by kernel_rfl)) ?_
    try go_wp2
    go_meet
    case rel => exact ⟨_, ((a2_0 != a0_0)), tS, H', ⟨by have := HJ3.out; first | omega | exact Nat.le_refl _⟩, ⟨tG BK813.out⟩, ⟨tG BK814.out⟩, ⟨tG BK815.out⟩, ⟨tG BK816.out⟩, ⟨tB⟩⟩
   rw [if_neg c48] at H
   have c48b0 := beq_eq_false_iff_ne.mpr c48
   have c48b1 := bne_iff_ne.mpr c48
   replace H' := Aq.mk H
   clear H
   try go_wp2
   have n0_ := Aq.mk (kQD BK813.out)
   have n1_ := Aq.mk (kQD BK814.out)
   have n2_ := Aq.mk (kQD BK815.out)
   have n3_ := Aq.mk (kQD BK816.out)
   have n4_ := Aq.mk (bQ1 HB.out)
   clear BK813
   clear BK814
   clear BK815
   clear BK816
   clear HB
   have BK813 := n0_
   have BK814 := n1_
   have BK815 := n2_
   have BK816 := n3_
   have HB := n4_
   clear n0_ n1_ n2_ n3_ n4_
   refine start_ (n := 20) (S := fun w' => w'.cell? ⟨gb813, 0, none⟩ = some (.int .i64 a0_0) ∧ w'.cell? ⟨gb813, 1, none⟩ = some (.slice A0_1 l0_1.length c0_1) ∧ w'.cell? ⟨gb814, 0, none⟩ = some (.int .i64 a1_0) ∧ w'.cell? ⟨gb814, 1, none⟩ = some (.slice A1_1 l1_1.length c1_1)) (ds := []) #[false, false, false, false, false, false, false, false, false, false, false, false, false, false, false, false, false, false, false, false] (by kernel_rfl) rfl rfl ⟨(kQC BK813.out 0).trans rfl, (kQC BK813.out 1).trans rfl, (kQC BK814.out 0).trans rfl, (kQC BK814.out 1).trans rfl⟩ (fun hHeld => ?_); refine with_tabW impl_SendThrough.tab3 impl_SendThrough.bits3 (fun HT_ HW_ => ?_)
   generalize wc.drew = w50 at BK813 BK814 BK815 BK816 HB hHeld ⊢
   refine tP0 0 24 (bm 20 1) ?_
   refine tT4 1 25 (bm 20 3) ?_
   refine tP0 2 26 (bm 20 7) ?_
   refine tP0 3 27 (bm 20 15) ?_
   refine tP0 4 28 (bm 20 31) ?_
   refine tP0 5 29 (bm 20 63) ?_
   refine tP0 7 31 (bm 20 191) ?_
   refine tT4 6 30 (bm 20 255) ?_
   refine tT4 8 32 (bm 20 511) ?_
   refine one_ (i := 9) (N := some 33) (bm 20 1023) rfl rfl (one_of HT_.out (by kernel_rfl)) (by decide) (fun K hK => ?_)
   refine goes_ Try.func41 (by kernel_rfl) rfl #[.slice A0_1 l0_1.length c0_1] (by rfl) rfl rfl tL ?_
   with_reducible refine (impl_size_int64.calls _ _ l0_1 t820 _ ?s1 ?s2 A47.out).mono ?_
   (case s1 => exact tC ((Kd.C_below HR0_1.out HB.out)))
   (case s2 => exact HC0_1.out)
   rintro e w' ⟨rfl, ⟨nd, rfl⟩⟩
   refine ⟨_, rfl, ?_⟩
   refine hK.out _ _ ⟨(kQC BK813.out 0).trans rfl, (kQC BK813.out 1).trans rfl, (kQC BK814.out 0).trans rfl, (kQC BK814.out 1).trans rfl⟩ (fun hHeld => ?_)
   clear hK K
   refine tN 33 ?_
   refine tP0 10 34 (bm 20 2047) ?_
   refine tP0 11 35 (bm 20 4095) ?_
   refine tP0 12 36 (bm 20 8191) ?_
   refine pure_ (i := 13) (N := some 37) (v := undef) (a' := ?_) #[true, true, true, true, true, true, true, true, true, true, true, true, true, true, false, false, false, false, false, false] rfl rfl (any_of HT_.out (by kernel_rfl)) (fun _ _ _ h => h) (Or.inr ⟨by rfl, rfl⟩) ?_ ?_
   rotate_left
   ·simp only [Act.put, qSa, qSb, qSc, i64_w, i32_w]
    rfl
   refine pure_ (i := 14) (N := some 38) (v := undef) (a' := ?_) #[true, true, true, true, true, true, true, true, true, true, true, true, true, true, true, false, false, false, false, false] rfl rfl (any_of HT_.out (by kernel_rfl)) (fun _ _ _ h => h) (Or.inr ⟨by rfl, rfl⟩) ?_ ?_
   rotate_left
   ·simp only [Act.put, qSa, qSb, qSc, i64_w, i32_w]
    rfl
   refine pure_ (i := 15) (N := some 39) (v := undef) (a' := ?_) #[true, true, true, true, true, true, true, true, true, true, true, true, true, true, true, true, false, false, false, false] rfl rfl (any_of HT_.out (by kernel_rfl)) (fun _ _ _ h => h) (Or.inr ⟨by rfl, rfl⟩) ?_ ?_
   rotate_left
   ·simp only [Act.put, qSa, qSb, qSc, i64_w, i32_w]
    rfl
   refine pure_ (i := 16) (N := some 40) (v := undef) (a' := ?_) #[true, true, true, true, true, true, true, true, true, true, true, true, true, true, true, true, true, false, false, false] rfl rfl (any_of HT_.out (by kernel_rfl)) (fun _ _ _ h => h) (Or.inr ⟨by rfl, rfl⟩) ?_ ?_
   rotate_left
   ·simp only [Act.put, qSa, qSb, qSc, i64_w, i32_w]
    rfl
   refine pure_ (i := 17) (N := some 41) (v := undef) (a' := ?_) #[true, true, true, true, true, true, true, true, true, true, true, true, true, true, true, true, true, true, false, false] rfl rfl (any_of HT_.out (by kernel_rfl)) (fun _ _ _ h => h) (Or.inr ⟨by rfl, rfl⟩) ?_ ?_
   rotate_left
   ·simp only [Act.put, qSa, qSb, qSc, i64_w, i32_w]
    rfl
   refine tP0 18 42 (bm 20 524287) ?_
   refine tP0 19 23 (bm 20 1048575) ?_
   refine done_ (done_of HT_.out (by kernel_rfl)) ?_
   try go_wp2
   go_meet
   case rel => exact ⟨_, (true), tS, H', ⟨by have := HJ3.out; first | omega | exact Nat.le_refl _⟩, ⟨tG BK813.out⟩, ⟨tG BK814.out⟩, ⟨tG BK815.out⟩, ⟨tG BK816.out⟩, ⟨tB⟩⟩
  clear HC45
  try clear c40
  try clear c46
  try clear c46b0
  try clear c46b1
  try clear c48
  try clear c48b0
  try clear c48b1
  try clear hcz44_0
  try clear hcz44_1
  try clear hfz21_0
  try clear hfz21_1
  try clear hfz24_0
  try clear hfz24_1
  try clear hfz29_0
  try clear hfz29_1
  try clear hfz33_0
  try clear hfz33_1
  try clear hfz38_0
  try clear hfz38_1
  try clear hfz44_0
  try clear hfz44_1
  obtain ⟨kq, x23_44, rfl, HA, HJ44, BK813, BK814, BK815, BK816, HB⟩ := hcut
  cases kq with
  | zero => exact absurd HA.out (by simp [impl_SendThrough.j1])
  | succ kj44 =>
   have H := HA.out
   clear HA
   simp only [impl_SendThrough.j1] at H
   by_cases c52 : x23_44 = true
   ·subst c52
    rw [if_pos rfl] at H
    simp only [Option.some.injEq, Prod.mk.injEq] at H
    obtain ⟨rfl, rfl, rfl⟩ := H
    have hnb53 := NB816_813.out
    have hnc53 := NB813_816.out
    have hnb54 := NB816_814.out
    have hnc54 := NB814_816.out
    have hnb55 := NB816_815.out
    have hnc55 := NB815_816.out
    have hcz56_0 : wc.cell? ⟨gb816, 0, none⟩ = some (.int .i64 0) := (kQC BK816.out 0).trans rfl
    have hcz56_1 : wc.cell? ⟨gb816, 1, none⟩ = some (.slice none 0 0) := (kQC BK816.out 1).trans rfl
    have hfz56_0 := kQF BK816.out 0
    have hfz56_1 := kQF BK816.out 1
    go_wp2
    refine bodyPost_ret (results_ct rfl _ _ gb816 27 #[.int .i64 0, .slice none 0 0] (0, 0) _ rfl (by (with_reducible repeat (first | refine kQN ?_ _ | refine kQD ?_ | refine kQA ?_ _)); refine kQP (cs := #[.int .i64 0, .slice none 0 0]) ?_ 1 _ rfl; (with_reducible repeat (first | refine kQN ?_ _ | refine kQD ?_ | refine kQA ?_ _)); refine kQP (cs := #[.int .i64 0, .slice none 0 0]) ?_ 0 _ rfl; (with_reducible repeat (first | refine kQN ?_ _ | refine kQD ?_ | refine kQA ?_ _)); exact BK816.out) Try.underlying27 rfl (by kernel_rfl)) rfl ?_
    exact ⟨_, tE, by first | exact Kd.R_nil _ _ _ _ _ | exact Kd.N_nil _ _ _ _ _ | exact Kd.V_nil _ _ _ _ _ | exact Kd.Q_nil _ _ _ _ _ | exact Kd.S_nil _ _ _ _ _, tB⟩
   replace c52 := Bool.eq_false_iff.mpr c52
   subst c52
   rw [if_neg (show ¬ (false = true) by decide)] at H
   by_cases c57 : (l0_1.length : Int) = 0
   ·rw [if_pos c57] at H
    have c57b0 := beq_iff_eq.mpr c57
    have c57b1 := bne_eq_false_iff_eq.mpr c57
    clear c57
    obtain ⟨⟨t821, t822⟩, A58, H⟩ := qBd H
    (try dsimp only at H)
    simp only [Option.some.injEq, Prod.mk.injEq] at H
    obtain ⟨rfl, rfl, rfl⟩ := H
    have hnb59 := NB813_814.out
    have hnc59 := NB814_813.out
    have hnb60 := NB813_815.out
    have hnc60 := NB815_813.out
    have hnb61 := NB813_816.out
    have hnc61 := NB816_813.out
    have hcz62_0 : wc.cell? ⟨gb813, 0, none⟩ = some (.int .i64 a0_0) := (kQC BK813.out 0).trans rfl
    have hcz62_1 : wc.cell? ⟨gb813, 1, none⟩ = some (.slice A0_1 l0_1.length c0_1) := (kQC BK813.out 1).trans rfl
    have hfz62_0 := kQF BK813.out 0
    have hfz62_1 := kQF BK813.out 1
    have hnb63 := NB815_814.out
    have hnc63 := NB814_815.out
    have hnb64 := NB815_816.out
    have hnc64 := NB816_815.out
    have hcz65_0 : wc.cell? ⟨gb815, 0, none⟩ = some (.int .i64 a2_0) := (kQC BK815.out 0).trans rfl
    have hcz65_1 : wc.cell? ⟨gb815, 1, none⟩ = some (.slice A2_1 l2_1.length c2_1) := (kQC BK815.out 1).trans rfl
    have hfz65_0 := kQF BK815.out 0
    have hfz65_1 := kQF BK815.out 1
    go_wp2_with (first | ((with_reducible refine gQc (f := 43) rfl ?_); refine goesL_ (some 50) rfl rfl Try.func43 (by kernel_rfl) rfl #[.agg #[.int .i64 a2_0, .slice A2_1 l2_1.length c2_1]] rfl tL ?_; (with_reducible refine (impl_Matrix_form.calls kj44 a2_0 _ _ l2_1 t821 t822 _ ?s1 ?s2 A58.out).mono ?_); (case s1 => exact tC ((Kd.C_below HR2_1.out HB.out))); (case s2 => exact HC2_1.out); rintro e w66 ⟨v823, rfl, ho0, hb⟩; refine ⟨_, rfl, ?_⟩; refine qM6 (Kd.R_lower ho0 (bQZ tB)) (tQ BK813.out hb) (tQ BK814.out hb) (tQ BK815.out hb) (tQ BK816.out hb) (bQT tB hb) ?_; clear BK813 BK814 BK815 BK816 HB; intro HO824 BK813 BK814 BK815 BK816 HB; (try clear hb); (try clear hb2); (try clear hk); (try clear hi); (try clear ho0); have hnb67 := NB816_814.out; have hnc67 := NB814_816.out; have hcz68_0 : w66.cell? ⟨gb816, 0, none⟩ = some (.int .i64 0) := (kQC BK816.out 0).trans rfl; have hcz68_1 : w66.cell? ⟨gb816, 1, none⟩ = some (.slice none 0 0) := (kQC BK816.out 1).trans rfl; have hfz68_0 := kQF BK816.out 0; have hfz68_1 := kQF BK816.out 1; obtain ⟨Ao69, co69, eo69⟩ := Kd.R_slice HO824.out; subst eo69))
    refine bodyPost_ret (results_ct rfl _ _ gb816 27 #[.int .i64 t821, .slice Ao69 t822.length co69] (0, 0) _ rfl (by (with_reducible repeat (first | refine kQN ?_ _ | refine kQD ?_ | refine kQA ?_ _)); refine kQP (cs := #[.int .i64 t821, .slice none 0 0]) ?_ 1 _ rfl; (with_reducible repeat (first | refine kQN ?_ _ | refine kQD ?_ | refine kQA ?_ _)); refine kQP (cs := #[.int .i64 0, .slice none 0 0]) ?_ 0 _ rfl; (with_reducible repeat (first | refine kQN ?_ _ | refine kQD ?_ | refine kQA ?_ _)); exact BK816.out) Try.underlying27 rfl (by kernel_rfl)) rfl ?_
    exact ⟨_, tE, by (with_reducible repeat (first | apply Kd.RqA | apply Kd.RqN | apply Kd.RqD)); exact Kd.R_mono (Kd.R_far (p := ⟨gb816, 1, none⟩) (Kd.R_far (p := ⟨gb816, 0, none⟩) (Kd.R_types HO824.out BK816.out (by decide)) (fun _ hk => hk.2) (.int .i64 t821)) (fun _ hk => hk.2) (.slice Ao69 t822.length co69)) (fun _ hk => trivial), tB⟩
   rw [if_neg c57] at H
   have c57b0 := beq_eq_false_iff_ne.mpr c57
   have c57b1 := bne_iff_ne.mpr c57
   have c57b2 : ¬ (l0_1 = []) := fun h_ => c57 (by rw [h_]; rfl)
   obtain ⟨⟨t825, t826⟩, A70, H⟩ := qBd H
   (try dsimp only at H)
   obtain ⟨⟨t829, t830⟩, A71, H⟩ := qBd H
   (try dsimp only at H)
   simp only [Option.some.injEq, Prod.mk.injEq] at H
   obtain ⟨rfl, rfl, rfl⟩ := H
   have hnb72 := NB813_814.out
   have hnc72 := NB814_813.out
   have hnb73 := NB813_815.out
   have hnc73 := NB815_813.out
   have hnb74 := NB813_816.out
   have hnc74 := NB816_813.out
   have hcz75_0 : wc.cell? ⟨gb813, 0, none⟩ = some (.int .i64 a0_0) := (kQC BK813.out 0).trans rfl
   have hcz75_1 : wc.cell? ⟨gb813, 1, none⟩ = some (.slice A0_1 l0_1.length c0_1) := (kQC BK813.out 1).trans rfl
   have hfz75_0 := kQF BK813.out 0
   have hfz75_1 := kQF BK813.out 1
   try go_wp2
   have n0_ := Aq.mk (kQD BK813.out)
   have n1_ := Aq.mk (kQD BK814.out)
   have n2_ := Aq.mk (kQD BK815.out)
   have n3_ := Aq.mk (kQD BK816.out)
   have n4_ := Aq.mk (bQ1 HB.out)
   clear BK813
   clear BK814
   clear BK815
   clear BK816
   clear HB
   have BK813 := n0_
   have BK814 := n1_
   have BK815 := n2_
   have BK816 := n3_
   have HB := n4_
   clear n0_ n1_ n2_ n3_ n4_
   refine start_ (n := 7) (S := fun w' => w'.cell? ⟨gb814, 0, none⟩ = some (.int .i64 a1_0) ∧ w'.cell? ⟨gb814, 1, none⟩ = some (.slice A1_1 l1_1.length c1_1) ∧ w'.cell? ⟨gb813, 0, none⟩ = some (.int .i64 a0_0) ∧ w'.cell? ⟨gb813, 1, none⟩ = some (.slice A0_1 l0_1.length c0_1) ∧ w'.cell? ⟨gb815, 0, none⟩ = some (.int .i64 a2_0) ∧ w'.cell? ⟨gb815, 1, none⟩ = some (.slice A2_1 l2_1.length c2_1)) (ds := []) #[false, false, false, false, false, false, false] (by kernel_rfl) rfl rfl ⟨(kQC BK814.out 0).trans rfl, (kQC BK814.out 1).trans rfl, (kQC BK813.out 0).trans rfl, (kQC BK813.out 1).trans rfl, (kQC BK815.out 0).trans rfl, (kQC BK815.out 1).trans rfl⟩ (fun hHeld => ?_)
   generalize wc.drew = w76 at BK813 BK814 BK815 BK816 HB hHeld ⊢
   refine tT6k 0 51 (bm 7 1) ?_
   refine tT6k 1 52 (bm 7 3) ?_
   refine tT6k 3 54 (bm 7 11) ?_
   refine one_ (i := 2) (N := some 53) (bm 7 15) rfl rfl (by kernel_rfl) (by decide) (fun K hK => ?_)
   refine goes_ Try.func54 (by kernel_rfl) rfl #[.agg #[.int .i64 a1_0, .slice A1_1 l1_1.length c1_1], .agg #[.int .i64 a0_0, .slice A0_1 l0_1.length c0_1]] (by rfl) rfl rfl tL ?_
   with_reducible refine (impl_Matrix_mul.calls kj44 a1_0 _ _ l1_1 a0_0 _ _ l0_1 t825 t826 _ ?s1 ?s2 ?s3 ?s4 A70.out).mono ?_
   (case s1 => exact tC ((Kd.C_below HR1_1.out HB.out)))
   (case s2 => exact HC1_1.out)
   (case s3 => exact tC ((Kd.C_below HR0_1.out HB.out)))
   (case s4 => exact HC0_1.out)
   rintro e w77 ⟨v827, rfl, ho0, hb⟩
   refine ⟨_, rfl, ?_⟩
   have n0_ := Aq.mk (Kd.R_lower ho0 (bQZ tB))
   have n1_ := Aq.mk (tQ BK813.out hb)
   have n2_ := Aq.mk (tQ BK814.out hb)
   have n3_ := Aq.mk (tQ BK815.out hb)
   have n4_ := Aq.mk (tQ BK816.out hb)
   have n5_ := Aq.mk (bQT tB hb)
   clear BK813
   clear BK814
   clear BK815
   clear BK816
   clear HB
   have HO828 := n0_
   have BK813 := n1_
   have BK814 := n2_
   have BK815 := n3_
   have BK816 := n4_
   have HB := n5_
   clear n0_ n1_ n2_ n3_ n4_ n5_
   (try clear hb)
   (try clear hb2)
   (try clear hk)
   (try clear hi)
   (try clear ho0)
   obtain ⟨Ao78, co78, eo78⟩ := Kd.R_slice HO828.out
   (first | subst eo78 | (injection eo78 with f1_ f2_ f3_; have f4_ := f1_.symm; have f5_ := f3_.symm; clear f1_ f2_ f3_; subst f4_; subst f5_))
   refine hK.out _ _ ⟨(kQC BK814.out 0).trans rfl, (kQC BK814.out 1).trans rfl, (kQC BK813.out 0).trans rfl, (kQC BK813.out 1).trans rfl, (kQC BK815.out 0).trans rfl, (kQC BK815.out 1).trans rfl⟩ (fun hHeld => ?_)
   clear hK K
   refine tN 53 ?_
   refine one_ (i := 4) (N := some 55) (bm 7 31) rfl rfl (by kernel_rfl) (by decide) (fun K hK => ?_)
   refine goes_ Try.func58 (by kernel_rfl) rfl #[.agg #[.int .i64 t825, .slice Ao78 t826.length co78], .agg #[.int .i64 a2_0, .slice A2_1 l2_1.length c2_1]] (by rfl) rfl rfl tL ?_
   with_reducible refine (impl_Matrix_sum.calls kj44 t825 (fun k_ => some k_ = (.slice Ao78 t826.length co78 : Value).ownBlock) _ _ t826 a2_0 (fun k_ => k_ < w.heap.size) _ _ l2_1 t829 t830 _ ?s1 ?s2 A71.out).mono ?_
   (case s1 => exact Kd.R_V (Kd.R_tight rfl (Kd.R_types (Kd.R_types (Kd.R_types (Kd.R_types (HO828.out) BK813.out (by decide)) BK814.out (by decide)) BK815.out (by decide)) BK816.out (by decide))))
   (case s2 => exact Kd.V_mk HC2_1.out (Kd.F_below (Kd.C_F (Kd.heap_int .i64) HR2_1.out) tB))
   rintro e w79 ⟨v831, rfl, ho0, hb⟩
   refine ⟨_, rfl, ?_⟩
   have n0_ := Aq.mk (Kd.R_elder' (tR HO828.out) (Kd.R_base ho0) hb)
   have n1_ := Aq.mk (Kd.R_lower (Kd.R_new' (Kd.R_mono (ok' := fun k_ => True) ho0 (fun _ hk_ => trivial)) (Kd.R_lt (tR HO828.out))) (bQZ tB))
   have n2_ := Aq.mk (tQ BK813.out hb)
   have n3_ := Aq.mk (tQ BK814.out hb)
   have n4_ := Aq.mk (tQ BK815.out hb)
   have n5_ := Aq.mk (tQ BK816.out hb)
   have n6_ := Aq.mk (bQT tB hb)
   clear HO828
   clear BK813
   clear BK814
   clear BK815
   clear BK816
   clear HB
   have HO828 := n0_
   have HO832 := n1_
   have BK813 := n2_
   have BK814 := n3_
   have BK815 := n4_
   have BK816 := n5_
   have HB := n6_
   clear n0_ n1_ n2_ n3_ n4_ n5_ n6_
   (try clear hb)
   (try clear hb2)
   (try clear hk)
   (try clear hi)
   (try clear ho0)
   obtain ⟨Ao81, co81, eo81⟩ := Kd.R_slice HO832.out
   (first | subst eo81 | (injection eo81 with f1_ f2_ f3_; have f4_ := f1_.symm; have f5_ := f3_.symm; clear f1_ f2_ f3_; subst f4_; subst f5_))
   refine hK.out _ _ ⟨(kQC BK814.out 0).trans rfl, (kQC BK814.out 1).trans rfl, (kQC BK813.out 0).trans rfl, (kQC BK813.out 1).trans rfl, (kQC BK815.out 0).trans rfl, (kQC BK815.out 1).trans rfl⟩ (fun hHeld => ?_)
   clear hK K
   refine tN 55 ?_
   refine one_ (i := 5) (N := none) #[true, true, true, true, true, true, false] rfl rfl (by kernel_rfl) (by decide) (fun K hK => ?_)
   have hs80 : w79.cell? ⟨gb816, 0, none⟩ = some (.int .i64 0) := (kQC BK816.out 0).trans rfl
   have hfs80 := kQF BK816.out 0
   have hns80_0 := NB813_816.out
   have hns80_1 := NB814_816.out
   have hns80_2 := NB815_816.out
   have hms80_0 := NB816_813.out
   have hms80_1 := NB816_814.out
   have hms80_2 := NB816_815.out
   have hs82 : w79.cell? ⟨gb816, 1, none⟩ = some (.slice none 0 0) := (kQC BK816.out 1).trans rfl
   have hfs82 := kQF BK816.out 1
   have hns82_0 := NB813_816.out
   have hns82_1 := NB814_816.out
   have hns82_2 := NB815_816.out
   have hms82_0 := NB816_813.out
   have hms82_1 := NB816_814.out
   have hms82_2 := NB816_815.out
   refine skip_ (w1 := ?_) (by rfl) rfl ?_ ?_
   rotate_left
   ·go_simp
    rfl
   refine hK.out _ _ ⟨((cell_far (p := ⟨gb816, _, none⟩) NB814_816.out _).trans (((cell_far (p := ⟨gb816, _, none⟩) NB814_816.out _).trans (hHeld.1)))), ((cell_far (p := ⟨gb816, _, none⟩) NB814_816.out _).trans (((cell_far (p := ⟨gb816, _, none⟩) NB814_816.out _).trans (hHeld.2.1)))), ((cell_far (p := ⟨gb816, _, none⟩) NB813_816.out _).trans (((cell_far (p := ⟨gb816, _, none⟩) NB813_816.out _).trans (hHeld.2.2.1)))), ((cell_far (p := ⟨gb816, _, none⟩) NB813_816.out _).trans (((cell_far (p := ⟨gb816, _, none⟩) NB813_816.out _).trans (hHeld.2.2.2.1)))), ((cell_far (p := ⟨gb816, _, none⟩) NB815_816.out _).trans (((cell_far (p := ⟨gb816, _, none⟩) NB815_816.out _).trans (hHeld.2.2.2.2.1)))), ((cell_far (p := ⟨gb816, _, none⟩) NB815_816.out _).trans (((cell_far (p := ⟨gb816, _, none⟩) NB815_816.out _).trans (hHeld.2.2.2.2.2))))⟩ (fun hHeld => ?_)
   clear hK K
   refine tP0k 6 7 (bm 7 127) ?_
   refine done_ (by kernel_rfl) ?_
   try go_wp2
   refine bodyPost_ret (results_ct rfl _ _ gb816 27 #[.int .i64 t829, .slice Ao81 t830.length co81] (0, 0) _ rfl (by (with_reducible repeat (first | refine kQN ?_ _ | refine kQD ?_ | refine kQA ?_ _)); refine kQP (cs := #[.int .i64 t829, .slice none 0 0]) ?_ 1 _ rfl; (with_reducible repeat (first | refine kQN ?_ _ | refine kQD ?_ | refine kQA ?_ _)); refine kQP (cs := #[.int .i64 0, .slice none 0 0]) ?_ 0 _ rfl; (with_reducible repeat (first | refine kQN ?_ _ | refine kQD ?_ | refine kQA ?_ _)); exact BK816.out) Try.underlying27 rfl (by kernel_rfl)) rfl ?_
   exact ⟨_, tE, by (with_reducible repeat (first | apply Kd.RqA | apply Kd.RqN | apply Kd.RqD)); exact Kd.R_mono (Kd.R_far (p := ⟨gb816, 1, none⟩) (Kd.R_far (p := ⟨gb816, 0, none⟩) (Kd.R_types HO832.out BK816.out (by decide)) (fun _ hk => hk.2) (.int .i64 t829)) (fun _ hk => hk.2) (.slice Ao81 t830.length co81)) (fun _ hk => trivial), tB⟩
end Go.Proofs.Ythjfilmdobkmlaa.P
