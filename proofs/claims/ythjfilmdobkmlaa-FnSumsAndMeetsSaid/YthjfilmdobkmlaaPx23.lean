/- Functions of the program and what they tell, as the printing program wrote it. -/
import Derived.Test.YthjfilmdobkmlaaPx0
import Derived.Test.YthjfilmdobkmlaaPx4
import Derived.Test.YthjfilmdobkmlaaPx11
import Derived.Test.YthjfilmdobkmlaaPx20
import Derived.Test.YthjfilmdobkmlaaPx21
namespace Go.Proofs.Ythjfilmdobkmlaa.P
open Go.Shelf Go.RowKit Go.Proofs.YthjfilmdobkmlaaW.PrintWords Go.Proofs.YthjfilmdobkmlaaW.PrintLast Go.Proofs.YthjfilmdobkmlaaW.PrintMore
attribute [local go_sem] max2_int min2_int max_two min_two max_three min_three max_four min_four
set_option linter.unusedVariables false
set_option linter.unusedSimpArgs false
attribute [local go_sem] Instr.field asAgg
set_option maxHeartbeats 8000000
set_option maxRecDepth 100000
def impl_Matrix_contains.f (k : Nat) (a0_0 : Int) (l0_1 : List Int) (a1_0 : Int) (l1_1 : List Int) : Option (Bool) := (impl_Matrix_sum.f k a0_0 l0_1 a1_0 l1_1).bind fun bt492 => (some ((bt492.2.length : Int) == (l0_1.length : Int)))
theorem impl_Matrix_contains.mono : ∀ a0 a1 a2 a3 k, LeO (impl_Matrix_contains.f k a0 a1 a2 a3) (impl_Matrix_contains.f (k + 1) a0 a1 a2 a3) := by
 intro a0 a1 a2 a3 k
 unfold impl_Matrix_contains.f
 repeat' first
  | (with_reducible first | apply impl_Matrix_sum.mono | exact LeO.refl _ | exact LeO.none _ | refine LeO.ite ?_ ?_ | refine LeO.bind ?_ (fun _ => ?_))
  | exact LeO.none _
  | refine LeO.ite ?_ ?_
  | refine LeO.bind ?_ (fun _ => ?_)
def impl_Matrix_contains.T1 : Bool × List (List Nat × List Nat) := (true, [([], []), ([], []), ([0, 1], [0, 1]), ([2], [2]), ([3], [3]), ([], []), ([5], [5]), ([6], [6]), ([4, 7], [4, 7]), ([8, 2, 0, 1, 2, 3, 4, 5, 6, 7, 8], [8])])
def impl_Matrix_contains.B1 : List Nat := [0, 0, 3, 7, 15, 0, 32, 96, 255, 511]
theorem impl_Matrix_contains.tab1 : rtab .any (opsOf Try.f60 1) = impl_Matrix_contains.T1 := by kernel_rfl
theorem impl_Matrix_contains.bits1 : waitsOk impl_Matrix_contains.T1.2 impl_Matrix_contains.B1 = true := by kernel_rfl
theorem impl_Matrix_contains.calls (k : Nat) (a0_0 : Int) (A0_1 : Option Addr) (c0_1 : Nat) (l0_1 : List Int) (a1_0 : Int) (A1_1 : Option Addr) (c1_1 : Nat) (l1_1 : List Int) (r : Bool) (w : World) (hr0_1 : Kd.C (Kd.int .i64) w A0_1 l0_1.length l0_1) (hc0_1 : l0_1.length ≤ c0_1) (hr1_1 : Kd.C (Kd.int .i64) w A1_1 l1_1.length l1_1) (hc1_1 : l1_1.length ≤ c1_1) (h : impl_Matrix_contains.f k a0_0 l0_1 a1_0 l1_1 = some r) :
 Calls Try.prog 60 #[.agg #[.int .i64 a0_0, .slice A0_1 l0_1.length c0_1], .agg #[.int .i64 a1_0, .slice A1_1 l1_1.length c1_1]] w fun e w' => e = .returned (.bool r) ∧ Below w.heap.size w w' := by
 have hu27 := Try.underlying27
 have HR0_1 := Aq.mk hr0_1
 have HC0_1 := Aq.mk hc0_1
 clear hr0_1 hc0_1
 have HR1_1 := Aq.mk hr1_1
 have HC1_1 := Aq.mk hc1_1
 clear hr1_1 hc1_1
 have HB := Aq.mk (Below.refl w.heap.size w)
 have H : ((impl_Matrix_sum.f k a0_0 l0_1 a1_0 l1_1).bind fun bt492 => (some ((bt492.2.length : Int) == (l0_1.length : Int)))) = some r := h
 clear h
 obtain ⟨⟨t492, t493⟩, A3, H⟩ := qBd H
 (try dsimp only at H)
 obtain rfl := Option.some.inj H
 go_enter Try.func60, Try.ntmps60
 try go_wp2_with (first | ((with_reducible refine gQd (N := 2) rfl ?_); refine xQe ?hg (N := 2) ?hd (cs := #[.int .i64 a0_0, .slice A0_1 l0_1.length c0_1]) (t := 27) ?hr ?_; (case hd => rfl); (case hg => rfl); (case hr => exact tH); intro gb490 hg w4 hbox hb; refine qM4 (bQT tB hb) hbox (tZ w hg) (tZ w hg) ?_; clear HB; intro HB BK490 GW490 GE490; clear hb hbox hg) | ((with_reducible refine gQd (N := 3) rfl ?_); refine xQe ?hg (N := 3) ?hd (cs := #[.int .i64 a1_0, .slice A1_1 l1_1.length c1_1]) (t := 27) ?hr ?_; (case hd => rfl); (case hg => rfl); (case hr => exact tH); intro gb491 hg w5 hbox hb; refine qM7 (tQ BK490.out hb) (bQT tB hb) hbox (tZ w hg) (tZ w hg) ((by rw [hg]; exact Nat.ne_of_lt (blk_lt (g := gb490) (o := .cells #[.int .i64 a0_0, .slice A0_1 l0_1.length c0_1] 27 (0, 0)) (tG BK490.out)) : gb490 ≠ gb491)) ((by rw [hg]; exact Nat.ne_of_gt (blk_lt (g := gb490) (o := .cells #[.int .i64 a0_0, .slice A0_1 l0_1.length c0_1] 27 (0, 0)) (tG BK490.out)) : gb491 ≠ gb490)) ?_; clear BK490 HB; intro BK490 HB BK491 GW491 GE491 NB490_491 NB491_490; clear hb hbox hg))
 have n0_ := Aq.mk (kQD BK490.out)
 have n1_ := Aq.mk (kQD BK491.out)
 have n2_ := Aq.mk (bQ1 HB.out)
 clear BK490
 clear BK491
 clear HB
 have BK490 := n0_
 have BK491 := n1_
 have HB := n2_
 clear n0_ n1_ n2_
 refine start_ (n := 10) (S := fun w' => w'.cell? ⟨gb490, 0, none⟩ = some (.int .i64 a0_0) ∧ w'.cell? ⟨gb490, 1, none⟩ = some (.slice A0_1 l0_1.length c0_1) ∧ w'.cell? ⟨gb491, 0, none⟩ = some (.int .i64 a1_0) ∧ w'.cell? ⟨gb491, 1, none⟩ = some (.slice A1_1 l1_1.length c1_1)) (ds := []) #[false, false, false, false, false, false, false, false, false, false] (by kernel_rfl) rfl rfl ⟨(kQC BK490.out 0).trans rfl, (kQC BK490.out 1).trans rfl, (kQC BK491.out 0).trans rfl, (kQC BK491.out 1).trans rfl⟩ (fun hHeld => ?_); refine with_tabW impl_Matrix_contains.tab1 impl_Matrix_contains.bits1 (fun HT_ HW_ => ?_)
 generalize w5.drew = w6 at BK490 BK491 HB hHeld ⊢
 refine tP0 5 10 (bm 10 32) ?_
 refine tT4 0 5 (bm 10 33) ?_
 refine tT4 1 6 (bm 10 35) ?_
 refine tT4 6 11 (bm 10 99) ?_
 refine tP0 7 12 (bm 10 227) ?_
 refine one_ (i := 2) (N := some 7) (bm 10 231) rfl rfl (one_of HT_.out (by kernel_rfl)) (by decide) (fun K hK => ?_)
 refine goes_ Try.func58 (by kernel_rfl) rfl #[.agg #[.int .i64 a0_0, .slice A0_1 l0_1.length c0_1], .agg #[.int .i64 a1_0, .slice A1_1 l1_1.length c1_1]] (by rfl) rfl rfl tL ?_
 with_reducible refine (impl_Matrix_sum.calls k a0_0 (fun k_ => k_ < w.heap.size) _ _ l0_1 a1_0 (fun k_ => k_ < w.heap.size) _ _ l1_1 t492 t493 _ ?s1 ?s2 A3.out).mono ?_
 (case s1 => exact Kd.V_mk HC0_1.out (Kd.F_below (Kd.C_F (Kd.heap_int .i64) HR0_1.out) tB))
 (case s2 => exact Kd.V_mk HC1_1.out (Kd.F_below (Kd.C_F (Kd.heap_int .i64) HR1_1.out) tB))
 rintro e w7 ⟨v494, rfl, ho0, hb⟩
 refine ⟨_, rfl, ?_⟩
 have n0_ := Aq.mk (Kd.R_lower (Kd.R_mono (ok' := fun k_ => True) ho0 (fun _ hk_ => trivial)) (bQZ tB))
 have n1_ := Aq.mk (tQ BK490.out hb)
 have n2_ := Aq.mk (tQ BK491.out hb)
 have n3_ := Aq.mk (bQT tB hb)
 clear BK490
 clear BK491
 clear HB
 have HO495 := n0_
 have BK490 := n1_
 have BK491 := n2_
 have HB := n3_
 clear n0_ n1_ n2_ n3_
 (try clear hb)
 (try clear hb2)
 (try clear hk)
 (try clear hi)
 (try clear ho0)
 obtain ⟨Ao8, co8, eo8⟩ := Kd.R_slice HO495.out
 (first | subst eo8 | (injection eo8 with f1_ f2_ f3_; have f4_ := f1_.symm; have f5_ := f3_.symm; clear f1_ f2_ f3_; subst f4_; subst f5_))
 refine hK.out _ _ ⟨(kQC BK490.out 0).trans rfl, (kQC BK490.out 1).trans rfl, (kQC BK491.out 0).trans rfl, (kQC BK491.out 1).trans rfl⟩ (fun hHeld => ?_)
 clear hK K
 refine tN 7 ?_
 refine tP0 3 8 (bm 10 239) ?_
 refine tP0 4 9 (bm 10 255) ?_
 refine tP0 8 13 (bm 10 511) ?_
 refine tP0 9 4 (bm 10 1023) ?_
 refine done_ (done_of HT_.out (by kernel_rfl)) ?_
 try go_wp2
 go_ret
 exact ⟨tE, tB⟩
def impl_Contains.f (k : Nat) (a0_0 : Int) (l0_1 : List Int) (a1_0 : Int) (l1_1 : List Int) : Option (Bool × Int) := (impl_spacesCode.f k a0_0 l0_1 a1_0 l1_1).bind fun t498 => (if t498 = 0 then ((impl_Matrix_contains.f k a0_0 l0_1 a1_0 l1_1).bind fun t499 => (some (t499, 0))) else (some (false, t498)))
theorem impl_Contains.mono : ∀ a0 a1 a2 a3 k, LeO (impl_Contains.f k a0 a1 a2 a3) (impl_Contains.f (k + 1) a0 a1 a2 a3) := by
 intro a0 a1 a2 a3 k
 unfold impl_Contains.f
 repeat' first
  | (with_reducible first | apply impl_Matrix_contains.mono | apply impl_spacesCode.mono | exact LeO.refl _ | exact LeO.none _ | refine LeO.ite ?_ ?_ | refine LeO.bind ?_ (fun _ => ?_))
  | exact LeO.none _
  | refine LeO.ite ?_ ?_
  | refine LeO.bind ?_ (fun _ => ?_)
theorem impl_Contains.calls (k : Nat) (a0_0 : Int) (A0_1 : Option Addr) (c0_1 : Nat) (l0_1 : List Int) (a1_0 : Int) (A1_1 : Option Addr) (c1_1 : Nat) (l1_1 : List Int) (r1 : Bool) (r2 : Int) (w : World) (hr0_1 : Kd.C (Kd.int .i64) w A0_1 l0_1.length l0_1) (hc0_1 : l0_1.length ≤ c0_1) (hr1_1 : Kd.C (Kd.int .i64) w A1_1 l1_1.length l1_1) (hc1_1 : l1_1.length ≤ c1_1) (h : impl_Contains.f k a0_0 l0_1 a1_0 l1_1 = some (r1, r2)) :
 Calls Try.prog 23 #[.agg #[.int .i64 a0_0, .slice A0_1 l0_1.length c0_1], .agg #[.int .i64 a1_0, .slice A1_1 l1_1.length c1_1]] w fun e w' => e = .returned (.tuple #[.bool r1, .int .i64 r2]) ∧ Below w.heap.size w w' := by
 have hu27 := Try.underlying27
 have HR0_1 := Aq.mk hr0_1
 have HC0_1 := Aq.mk hc0_1
 clear hr0_1 hc0_1
 have HR1_1 := Aq.mk hr1_1
 have HC1_1 := Aq.mk hc1_1
 clear hr1_1 hc1_1
 have HB := Aq.mk (Below.refl w.heap.size w)
 have H : ((impl_spacesCode.f k a0_0 l0_1 a1_0 l1_1).bind fun t498 => (if t498 = 0 then ((impl_Matrix_contains.f k a0_0 l0_1 a1_0 l1_1).bind fun t499 => (some (t499, 0))) else (some (false, t498)))) = some (r1, r2) := h
 clear h
 obtain ⟨t498, A3, H⟩ := qBd H
 by_cases c4 : t498 = 0
 rotate_left
 ·rw [if_neg c4] at H
  have c4b0 := beq_eq_false_iff_ne.mpr c4
  have c4b1 := bne_iff_ne.mpr c4
  simp only [Option.some.injEq, Prod.mk.injEq] at H
  obtain ⟨rfl, rfl⟩ := H
  go_enter Try.func23, Try.ntmps23
  go_wp2_with (first | ((with_reducible refine gQd (N := 2) rfl ?_); refine xQe ?hg (N := 2) ?hd (cs := #[.int .i64 a0_0, .slice A0_1 l0_1.length c0_1]) (t := 27) ?hr ?_; (case hd => rfl); (case hg => rfl); (case hr => exact tH); intro gb496 hg w15 hbox hb; refine qM4 (bQT tB hb) hbox (tZ w hg) (tZ w hg) ?_; clear HB; intro HB BK496 GW496 GE496; clear hb hbox hg) | ((with_reducible refine gQd (N := 3) rfl ?_); refine xQe ?hg (N := 3) ?hd (cs := #[.int .i64 a1_0, .slice A1_1 l1_1.length c1_1]) (t := 27) ?hr ?_; (case hd => rfl); (case hg => rfl); (case hr => exact tH); intro gb497 hg w16 hbox hb; refine qM7 (tQ BK496.out hb) (bQT tB hb) hbox (tZ w hg) (tZ w hg) ((by rw [hg]; exact Nat.ne_of_lt (blk_lt (g := gb496) (o := .cells #[.int .i64 a0_0, .slice A0_1 l0_1.length c0_1] 27 (0, 0)) (tG BK496.out)) : gb496 ≠ gb497)) ((by rw [hg]; exact Nat.ne_of_gt (blk_lt (g := gb496) (o := .cells #[.int .i64 a0_0, .slice A0_1 l0_1.length c0_1] 27 (0, 0)) (tG BK496.out)) : gb497 ≠ gb496)) ?_; clear BK496 HB; intro BK496 HB BK497 GW497 GE497 NB496_497 NB497_496; clear hb hbox hg; have hnb17 := NB496_497.out; have hnc17 := NB497_496.out; have hcz18_0 : w16.cell? ⟨gb496, 0, none⟩ = some (.int .i64 a0_0) := (kQC BK496.out 0).trans rfl; have hcz18_1 : w16.cell? ⟨gb496, 1, none⟩ = some (.slice A0_1 l0_1.length c0_1) := (kQC BK496.out 1).trans rfl; have hfz18_0 := kQF BK496.out 0; have hfz18_1 := kQF BK496.out 1; have hcz19_0 : w16.cell? ⟨gb497, 0, none⟩ = some (.int .i64 a1_0) := (kQC BK497.out 0).trans rfl; have hcz19_1 : w16.cell? ⟨gb497, 1, none⟩ = some (.slice A1_1 l1_1.length c1_1) := (kQC BK497.out 1).trans rfl; have hfz19_0 := kQF BK497.out 0; have hfz19_1 := kQF BK497.out 1) | ((with_reducible refine gQc (f := 57) rfl ?_); refine goesL_ (some 9) rfl rfl Try.func57 (by kernel_rfl) rfl #[.agg #[.int .i64 a0_0, .slice A0_1 l0_1.length c0_1], .agg #[.int .i64 a1_0, .slice A1_1 l1_1.length c1_1]] rfl tL ?_; (with_reducible refine (impl_spacesCode.calls k a0_0 _ _ l0_1 a1_0 _ _ l1_1 t498 _ ?s1 ?s2 ?s3 ?s4 A3.out).mono ?_); (case s1 => exact tC ((Kd.C_below HR0_1.out HB.out))); (case s2 => exact HC0_1.out); (case s3 => exact tC ((Kd.C_below HR1_1.out HB.out))); (case s4 => exact HC1_1.out); rintro e w20 ⟨rfl, hb⟩; refine ⟨_, rfl, ?_⟩; refine qM3 (tQ BK496.out hb) (tQ BK497.out hb) (bQT tB hb) ?_; clear BK496 BK497 HB; intro BK496 BK497 HB; (try clear hb); (try clear hb2); (try clear hk); (try clear hi)))
  go_ret2
  exact ⟨tE, tB⟩
 rw [if_pos c4] at H
 have c4b0 := beq_iff_eq.mpr c4
 have c4b1 := bne_eq_false_iff_eq.mpr c4
 clear c4
 obtain ⟨t499, A5, H⟩ := qBd H
 simp only [Option.some.injEq, Prod.mk.injEq] at H
 obtain ⟨rfl, rfl⟩ := H
 go_enter Try.func23, Try.ntmps23
 go_wp2_with (first | ((with_reducible refine gQd (N := 2) rfl ?_); refine xQe ?hg (N := 2) ?hd (cs := #[.int .i64 a0_0, .slice A0_1 l0_1.length c0_1]) (t := 27) ?hr ?_; (case hd => rfl); (case hg => rfl); (case hr => exact tH); intro gb496 hg w6 hbox hb; refine qM4 (bQT tB hb) hbox (tZ w hg) (tZ w hg) ?_; clear HB; intro HB BK496 GW496 GE496; clear hb hbox hg) | ((with_reducible refine gQd (N := 3) rfl ?_); refine xQe ?hg (N := 3) ?hd (cs := #[.int .i64 a1_0, .slice A1_1 l1_1.length c1_1]) (t := 27) ?hr ?_; (case hd => rfl); (case hg => rfl); (case hr => exact tH); intro gb497 hg w7 hbox hb; refine qM7 (tQ BK496.out hb) (bQT tB hb) hbox (tZ w hg) (tZ w hg) ((by rw [hg]; exact Nat.ne_of_lt (blk_lt (g := gb496) (o := .cells #[.int .i64 a0_0, .slice A0_1 l0_1.length c0_1] 27 (0, 0)) (tG BK496.out)) : gb496 ≠ gb497)) ((by rw [hg]; exact Nat.ne_of_gt (blk_lt (g := gb496) (o := .cells #[.int .i64 a0_0, .slice A0_1 l0_1.length c0_1] 27 (0, 0)) (tG BK496.out)) : gb497 ≠ gb496)) ?_; clear BK496 HB; intro BK496 HB BK497 GW497 GE497 NB496_497 NB497_496; clear hb hbox hg; have hnb8 := NB496_497.out; have hnc8 := NB497_496.out; have hcz9_0 : w7.cell? ⟨gb496, 0, none⟩ = some (.int .i64 a0_0) := (kQC BK496.out 0).trans rfl; have hcz9_1 : w7.cell? ⟨gb496, 1, none⟩ = some (.slice A0_1 l0_1.length c0_1) := (kQC BK496.out 1).trans rfl; have hfz9_0 := kQF BK496.out 0; have hfz9_1 := kQF BK496.out 1; have hcz10_0 : w7.cell? ⟨gb497, 0, none⟩ = some (.int .i64 a1_0) := (kQC BK497.out 0).trans rfl; have hcz10_1 : w7.cell? ⟨gb497, 1, none⟩ = some (.slice A1_1 l1_1.length c1_1) := (kQC BK497.out 1).trans rfl; have hfz10_0 := kQF BK497.out 0; have hfz10_1 := kQF BK497.out 1) | ((with_reducible refine gQc (f := 57) rfl ?_); refine goesL_ (some 9) rfl rfl Try.func57 (by kernel_rfl) rfl #[.agg #[.int .i64 a0_0, .slice A0_1 l0_1.length c0_1], .agg #[.int .i64 a1_0, .slice A1_1 l1_1.length c1_1]] rfl tL ?_; (with_reducible refine (impl_spacesCode.calls k a0_0 _ _ l0_1 a1_0 _ _ l1_1 t498 _ ?s1 ?s2 ?s3 ?s4 A3.out).mono ?_); (case s1 => exact tC ((Kd.C_below HR0_1.out HB.out))); (case s2 => exact HC0_1.out); (case s3 => exact tC ((Kd.C_below HR1_1.out HB.out))); (case s4 => exact HC1_1.out); rintro e w11 ⟨rfl, hb⟩; refine ⟨_, rfl, ?_⟩; refine qM3 (tQ BK496.out hb) (tQ BK497.out hb) (bQT tB hb) ?_; clear BK496 BK497 HB; intro BK496 BK497 HB; (try clear hb); (try clear hb2); (try clear hk); (try clear hi); have hcz12_0 : w11.cell? ⟨gb496, 0, none⟩ = some (.int .i64 a0_0) := (kQC BK496.out 0).trans rfl; have hcz12_1 : w11.cell? ⟨gb496, 1, none⟩ = some (.slice A0_1 l0_1.length c0_1) := (kQC BK496.out 1).trans rfl; have hfz12_0 := kQF BK496.out 0; have hfz12_1 := kQF BK496.out 1; have hcz13_0 : w11.cell? ⟨gb497, 0, none⟩ = some (.int .i64 a1_0) := (kQC BK497.out 0).trans rfl; have hcz13_1 : w11.cell? ⟨gb497, 1, none⟩ = some (.slice A1_1 l1_1.length c1_1) := (kQC BK497.out 1).trans rfl; have hfz13_0 := kQF BK497.out 0; have hfz13_1 := kQF BK497.out 1) | ((with_reducible refine gQc (f := 60) rfl ?_); refine goesL_ (some 15) rfl rfl Try.func60 (by kernel_rfl) rfl #[.agg #[.int .i64 a0_0, .slice A0_1 l0_1.length c0_1], .agg #[.int .i64 a1_0, .slice A1_1 l1_1.length c1_1]] rfl tL ?_; (with_reducible refine (impl_Matrix_contains.calls k a0_0 _ _ l0_1 a1_0 _ _ l1_1 t499 _ ?s1 ?s2 ?s3 ?s4 A5.out).mono ?_); (case s1 => exact tC ((Kd.C_below HR0_1.out HB.out))); (case s2 => exact HC0_1.out); (case s3 => exact tC ((Kd.C_below HR1_1.out HB.out))); (case s4 => exact HC1_1.out); rintro e w14 ⟨rfl, hb⟩; refine ⟨_, rfl, ?_⟩; refine qM3 (tQ BK496.out hb) (tQ BK497.out hb) (bQT tB hb) ?_; clear BK496 BK497 HB; intro BK496 BK497 HB; (try clear hb); (try clear hb2); (try clear hk); (try clear hi)))
 go_ret2
 exact ⟨tE, tB⟩
def impl_DualSpace.f (k : Nat) (a0_0 : Int) (l0_1 : List Int) : Option (Int × List Int × Int) := (impl_IsSpace.f k a0_0 l0_1).bind fun t502 => (if t502 = true then ((impl_Matrix_kernel.f k a0_0 l0_1).bind fun bt503 => (some (bt503.1, bt503.2, 0))) else (some (0, ([] : List Int), 1)))
theorem impl_DualSpace.mono : ∀ a0 a1 k, LeO (impl_DualSpace.f k a0 a1) (impl_DualSpace.f (k + 1) a0 a1) := by
 intro a0 a1 k
 unfold impl_DualSpace.f
 repeat' first
  | (with_reducible first | apply impl_IsSpace.mono | apply impl_Matrix_kernel.mono | exact LeO.refl _ | exact LeO.none _ | refine LeO.ite ?_ ?_ | refine LeO.bind ?_ (fun _ => ?_))
  | exact LeO.none _
  | refine LeO.ite ?_ ?_
  | refine LeO.bind ?_ (fun _ => ?_)
theorem impl_DualSpace.calls (k : Nat) (a0_0 : Int) (A0_1 : Option Addr) (c0_1 : Nat) (l0_1 : List Int) (r1 : Int) (r2 : List Int) (r3 : Int) (w : World) (hr0_1 : Kd.C (Kd.int .i64) w A0_1 l0_1.length l0_1) (hc0_1 : l0_1.length ≤ c0_1) (h : impl_DualSpace.f k a0_0 l0_1 = some (r1, r2, r3)) :
 Calls Try.prog 24 #[.agg #[.int .i64 a0_0, .slice A0_1 l0_1.length c0_1]] w fun e w' => ∃ v1_ : Value, e = .returned (.tuple #[.agg #[.int .i64 r1, v1_], .int .i64 r3]) ∧ Kd.R (Kd.int .i64) 2 w' w.heap.size (fun _ => True) v1_ r2 ∧ Below w.heap.size w w' := by
 have hu27 := Try.underlying27
 have HR0_1 := Aq.mk hr0_1
 have HC0_1 := Aq.mk hc0_1
 clear hr0_1 hc0_1
 have HB := Aq.mk (Below.refl w.heap.size w)
 have H : ((impl_IsSpace.f k a0_0 l0_1).bind fun t502 => (if t502 = true then ((impl_Matrix_kernel.f k a0_0 l0_1).bind fun bt503 => (some (bt503.1, bt503.2, 0))) else (some (0, ([] : List Int), 1)))) = some (r1, r2, r3) := h
 clear h
 obtain ⟨t502, A2, H⟩ := qBd H
 by_cases c3 : t502 = true
 ·subst c3
  rw [if_pos rfl] at H
  obtain ⟨⟨t503, t504⟩, A4, H⟩ := qBd H
  (try dsimp only at H)
  simp only [Option.some.injEq, Prod.mk.injEq] at H
  obtain ⟨rfl, rfl, rfl⟩ := H
  go_enter Try.func24, Try.ntmps24
  go_wp2_with (first | ((with_reducible refine gQd (N := 1) rfl ?_); refine xQe ?hg (N := 1) ?hd (cs := #[.int .i64 a0_0, .slice A0_1 l0_1.length c0_1]) (t := 27) ?hr ?_; (case hd => rfl); (case hg => rfl); (case hr => exact tH); intro gb500 hg w5 hbox hb; refine qM4 (bQT tB hb) hbox (tZ w hg) (tZ w hg) ?_; clear HB; intro HB BK500 GW500 GE500; clear hb hbox hg) | ((with_reducible refine gQd (N := 2) rfl ?_); refine xQe ?hg (N := 2) ?hd (cs := #[.int .i64 0, .slice none 0 0]) (t := 27) ?hr ?_; (case hd => rfl); (case hg => rfl); (case hr => exact tH); intro gb501 hg w6 hbox hb; refine qM7 (tQ BK500.out hb) (bQT tB hb) hbox (tZ w hg) (tZ w hg) ((by rw [hg]; exact Nat.ne_of_lt (blk_lt (g := gb500) (o := .cells #[.int .i64 a0_0, .slice A0_1 l0_1.length c0_1] 27 (0, 0)) (tG BK500.out)) : gb500 ≠ gb501)) ((by rw [hg]; exact Nat.ne_of_gt (blk_lt (g := gb500) (o := .cells #[.int .i64 a0_0, .slice A0_1 l0_1.length c0_1] 27 (0, 0)) (tG BK500.out)) : gb501 ≠ gb500)) ?_; clear BK500 HB; intro BK500 HB BK501 GW501 GE501 NB500_501 NB501_500; clear hb hbox hg; have hnb7 := NB500_501.out; have hnc7 := NB501_500.out; have hcz8_0 : w6.cell? ⟨gb500, 0, none⟩ = some (.int .i64 a0_0) := (kQC BK500.out 0).trans rfl; have hcz8_1 : w6.cell? ⟨gb500, 1, none⟩ = some (.slice A0_1 l0_1.length c0_1) := (kQC BK500.out 1).trans rfl; have hfz8_0 := kQF BK500.out 0; have hfz8_1 := kQF BK500.out 1) | ((with_reducible refine gQc (f := 13) rfl ?_); refine goesL_ (some 5) rfl rfl Try.func13 (by kernel_rfl) rfl #[.agg #[.int .i64 a0_0, .slice A0_1 l0_1.length c0_1]] rfl tL ?_; (with_reducible refine (impl_IsSpace.calls k a0_0 _ _ l0_1 true _ ?s1 ?s2 A2.out).mono ?_); (case s1 => exact tC ((Kd.C_below HR0_1.out HB.out))); (case s2 => exact HC0_1.out); rintro e w9 ⟨rfl, hb⟩; refine ⟨_, rfl, ?_⟩; refine qM3 (tQ BK500.out hb) (tQ BK501.out hb) (bQT tB hb) ?_; clear BK500 BK501 HB; intro BK500 BK501 HB; (try clear hb); (try clear hb2); (try clear hk); (try clear hi); have hcz10_0 : w9.cell? ⟨gb500, 0, none⟩ = some (.int .i64 a0_0) := (kQC BK500.out 0).trans rfl; have hcz10_1 : w9.cell? ⟨gb500, 1, none⟩ = some (.slice A0_1 l0_1.length c0_1) := (kQC BK500.out 1).trans rfl; have hfz10_0 := kQF BK500.out 0; have hfz10_1 := kQF BK500.out 1) | ((with_reducible refine gQc (f := 61) rfl ?_); refine goesL_ (some 9) rfl rfl Try.func61 (by kernel_rfl) rfl #[.agg #[.int .i64 a0_0, .slice A0_1 l0_1.length c0_1]] rfl tL ?_; (with_reducible refine (impl_Matrix_kernel.calls k a0_0 _ _ l0_1 t503 t504 _ ?s1 ?s2 A4.out).mono ?_); (case s1 => exact tC ((Kd.C_below HR0_1.out HB.out))); (case s2 => exact HC0_1.out); rintro e w11 ⟨v505, rfl, ho0, hb⟩; refine ⟨_, rfl, ?_⟩; refine qM4 (Kd.R_lower ho0 (bQZ tB)) (tQ BK500.out hb) (tQ BK501.out hb) (bQT tB hb) ?_; clear BK500 BK501 HB; intro HO506 BK500 BK501 HB; (try clear hb); (try clear hb2); (try clear hk); (try clear hi); (try clear ho0); have hcz12_0 : w11.cell? ⟨gb501, 0, none⟩ = some (.int .i64 0) := (kQC BK501.out 0).trans rfl; have hcz12_1 : w11.cell? ⟨gb501, 1, none⟩ = some (.slice none 0 0) := (kQC BK501.out 1).trans rfl; have hfz12_0 := kQF BK501.out 0; have hfz12_1 := kQF BK501.out 1; obtain ⟨Ao13, co13, eo13⟩ := Kd.R_slice HO506.out; subst eo13))
  refine bodyPost_ret (results_ct rfl _ _ gb501 27 #[.int .i64 t503, .slice Ao13 t504.length co13] (0, 0) _ rfl (by (with_reducible repeat (first | refine kQN ?_ _ | refine kQD ?_ | refine kQA ?_ _)); refine kQP (cs := #[.int .i64 t503, .slice none 0 0]) ?_ 1 _ rfl; (with_reducible repeat (first | refine kQN ?_ _ | refine kQD ?_ | refine kQA ?_ _)); refine kQP (cs := #[.int .i64 0, .slice none 0 0]) ?_ 0 _ rfl; (with_reducible repeat (first | refine kQN ?_ _ | refine kQD ?_ | refine kQA ?_ _)); exact BK501.out) Try.underlying27 rfl (by kernel_rfl)) rfl ?_
  exact ⟨_, tE, by (with_reducible repeat (first | apply Kd.RqA | apply Kd.RqN | apply Kd.RqD)); exact Kd.R_mono (Kd.R_far (p := ⟨gb501, 1, none⟩) (Kd.R_far (p := ⟨gb501, 0, none⟩) (Kd.R_types HO506.out BK501.out (by decide)) (fun _ hk => hk.2) (.int .i64 t503)) (fun _ hk => hk.2) (.slice Ao13 t504.length co13)) (fun _ hk => trivial), tB⟩
 replace c3 := Bool.eq_false_iff.mpr c3
 subst c3
 rw [if_neg (show ¬ (false = true) by decide)] at H
 simp only [Option.some.injEq, Prod.mk.injEq] at H
 obtain ⟨rfl, rfl, rfl⟩ := H
 go_enter Try.func24, Try.ntmps24
 go_wp2_with (first | ((with_reducible refine gQd (N := 1) rfl ?_); refine xQe ?hg (N := 1) ?hd (cs := #[.int .i64 a0_0, .slice A0_1 l0_1.length c0_1]) (t := 27) ?hr ?_; (case hd => rfl); (case hg => rfl); (case hr => exact tH); intro gb500 hg w14 hbox hb; refine qM4 (bQT tB hb) hbox (tZ w hg) (tZ w hg) ?_; clear HB; intro HB BK500 GW500 GE500; clear hb hbox hg) | ((with_reducible refine gQd (N := 2) rfl ?_); refine xQe ?hg (N := 2) ?hd (cs := #[.int .i64 0, .slice none 0 0]) (t := 27) ?hr ?_; (case hd => rfl); (case hg => rfl); (case hr => exact tH); intro gb501 hg w15 hbox hb; refine qM7 (tQ BK500.out hb) (bQT tB hb) hbox (tZ w hg) (tZ w hg) ((by rw [hg]; exact Nat.ne_of_lt (blk_lt (g := gb500) (o := .cells #[.int .i64 a0_0, .slice A0_1 l0_1.length c0_1] 27 (0, 0)) (tG BK500.out)) : gb500 ≠ gb501)) ((by rw [hg]; exact Nat.ne_of_gt (blk_lt (g := gb500) (o := .cells #[.int .i64 a0_0, .slice A0_1 l0_1.length c0_1] 27 (0, 0)) (tG BK500.out)) : gb501 ≠ gb500)) ?_; clear BK500 HB; intro BK500 HB BK501 GW501 GE501 NB500_501 NB501_500; clear hb hbox hg; have hnb16 := NB500_501.out; have hnc16 := NB501_500.out; have hcz17_0 : w15.cell? ⟨gb500, 0, none⟩ = some (.int .i64 a0_0) := (kQC BK500.out 0).trans rfl; have hcz17_1 : w15.cell? ⟨gb500, 1, none⟩ = some (.slice A0_1 l0_1.length c0_1) := (kQC BK500.out 1).trans rfl; have hfz17_0 := kQF BK500.out 0; have hfz17_1 := kQF BK500.out 1) | ((with_reducible refine gQc (f := 13) rfl ?_); refine goesL_ (some 5) rfl rfl Try.func13 (by kernel_rfl) rfl #[.agg #[.int .i64 a0_0, .slice A0_1 l0_1.length c0_1]] rfl tL ?_; (with_reducible refine (impl_IsSpace.calls k a0_0 _ _ l0_1 false _ ?s1 ?s2 A2.out).mono ?_); (case s1 => exact tC ((Kd.C_below HR0_1.out HB.out))); (case s2 => exact HC0_1.out); rintro e w18 ⟨rfl, hb⟩; refine ⟨_, rfl, ?_⟩; refine qM3 (tQ BK500.out hb) (tQ BK501.out hb) (bQT tB hb) ?_; clear BK500 BK501 HB; intro BK500 BK501 HB; (try clear hb); (try clear hb2); (try clear hk); (try clear hi); have hcz19_0 : w18.cell? ⟨gb501, 0, none⟩ = some (.int .i64 0) := (kQC BK501.out 0).trans rfl; have hcz19_1 : w18.cell? ⟨gb501, 1, none⟩ = some (.slice none 0 0) := (kQC BK501.out 1).trans rfl; have hfz19_0 := kQF BK501.out 0; have hfz19_1 := kQF BK501.out 1))
 refine bodyPost_ret (results_ct rfl _ _ gb501 27 #[.int .i64 0, .slice none 0 0] (0, 0) _ rfl (by (with_reducible repeat (first | refine kQN ?_ _ | refine kQD ?_ | refine kQA ?_ _)); refine kQP (cs := #[.int .i64 0, .slice none 0 0]) ?_ 1 _ rfl; (with_reducible repeat (first | refine kQN ?_ _ | refine kQD ?_ | refine kQA ?_ _)); refine kQP (cs := #[.int .i64 0, .slice none 0 0]) ?_ 0 _ rfl; (with_reducible repeat (first | refine kQN ?_ _ | refine kQD ?_ | refine kQA ?_ _)); exact BK501.out) Try.underlying27 rfl (by kernel_rfl)) rfl ?_
 exact ⟨_, tE, by first | exact Kd.R_nil _ _ _ _ _ | exact Kd.N_nil _ _ _ _ _ | exact Kd.V_nil _ _ _ _ _ | exact Kd.Q_nil _ _ _ _ _ | exact Kd.S_nil _ _ _ _ _, tB⟩
end Go.Proofs.Ythjfilmdobkmlaa.P
