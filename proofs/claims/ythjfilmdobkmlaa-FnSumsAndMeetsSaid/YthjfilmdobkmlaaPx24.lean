/- Functions of the program and what they tell, as the printing program wrote it. -/
import Derived.Test.YthjfilmdobkmlaaPx0
import Derived.Test.YthjfilmdobkmlaaPx1
import Derived.Test.YthjfilmdobkmlaaPx11
import Derived.Test.YthjfilmdobkmlaaPx20
namespace Go.Proofs.Ythjfilmdobkmlaa.P
open Go.Shelf Go.RowKit Go.Proofs.YthjfilmdobkmlaaW.PrintWords Go.Proofs.YthjfilmdobkmlaaW.PrintLast Go.Proofs.YthjfilmdobkmlaaW.PrintMore
attribute [local go_sem] max2_int min2_int max_two min_two max_three min_three max_four min_four
set_option linter.unusedVariables false
set_option linter.unusedSimpArgs false
attribute [local go_sem] Instr.field asAgg
set_option maxHeartbeats 8000000
set_option maxRecDepth 100000
def impl_Matrix_distance.f (k : Nat) (a0_0 : Int) (l0_1 : List Int) (a1_0 : Int) (l1_1 : List Int) : Option (Int) := (impl_Matrix_sum.f k a0_0 l0_1 a1_0 l1_1).bind fun bt509 => ((impl_size_int64.f bt509.2).bind fun t513 => ((impl_size_int64.f l0_1).bind fun t514 => ((impl_size_int64.f l1_1).bind fun t515 => (some (wrap64 ((wrap64 ((wrap64 (2 * t513)) - t514)) - t515))))))
theorem impl_Matrix_distance.mono : ∀ a0 a1 a2 a3 k, LeO (impl_Matrix_distance.f k a0 a1 a2 a3) (impl_Matrix_distance.f (k + 1) a0 a1 a2 a3) := by
 intro a0 a1 a2 a3 k
 unfold impl_Matrix_distance.f
 repeat' first
  | (with_reducible first | apply impl_Matrix_sum.mono | exact LeO.refl _ | exact LeO.none _ | refine LeO.ite ?_ ?_ | refine LeO.bind ?_ (fun _ => ?_))
  | exact LeO.none _
  | refine LeO.ite ?_ ?_
  | refine LeO.bind ?_ (fun _ => ?_)
def impl_Matrix_distance.T1 : Bool × List (List Nat × List Nat) := (true, [([], []), ([], []), ([0, 1], [0, 1]), ([2], [2]), ([3, 2], [3]), ([4], [4]), ([], []), ([6], [6]), ([7, 4], [7]), ([5, 8], [5, 8]), ([], []), ([10], [10]), ([11, 8], [11]), ([9, 12], [9, 12]), ([13, 12, 0, 1, 2, 3, 4, 5, 6, 7, 8, 9, 10, 11, 12, 13], [13])])
def impl_Matrix_distance.B1 : List Nat := [0, 0, 3, 7, 15, 31, 0, 64, 223, 511, 0, 1024, 3551, 8191, 16383]
theorem impl_Matrix_distance.tab1 : rtab .any (opsOf Try.f62 1) = impl_Matrix_distance.T1 := by kernel_rfl
theorem impl_Matrix_distance.bits1 : waitsOk impl_Matrix_distance.T1.2 impl_Matrix_distance.B1 = true := by kernel_rfl
theorem impl_Matrix_distance.calls (k : Nat) (a0_0 : Int) (A0_1 : Option Addr) (c0_1 : Nat) (l0_1 : List Int) (a1_0 : Int) (A1_1 : Option Addr) (c1_1 : Nat) (l1_1 : List Int) (r : Int) (w : World) (hr0_1 : Kd.C (Kd.int .i64) w A0_1 l0_1.length l0_1) (hc0_1 : l0_1.length ≤ c0_1) (hr1_1 : Kd.C (Kd.int .i64) w A1_1 l1_1.length l1_1) (hc1_1 : l1_1.length ≤ c1_1) (h : impl_Matrix_distance.f k a0_0 l0_1 a1_0 l1_1 = some r) :
 Calls Try.prog 62 #[.agg #[.int .i64 a0_0, .slice A0_1 l0_1.length c0_1], .agg #[.int .i64 a1_0, .slice A1_1 l1_1.length c1_1]] w fun e w' => e = .returned (.int .i64 r) ∧ Below w.heap.size w w' := by
 have hu27 := Try.underlying27
 have HR0_1 := Aq.mk hr0_1
 have HC0_1 := Aq.mk hc0_1
 clear hr0_1 hc0_1
 have HR1_1 := Aq.mk hr1_1
 have HC1_1 := Aq.mk hc1_1
 clear hr1_1 hc1_1
 have HB := Aq.mk (Below.refl w.heap.size w)
 have H : ((impl_Matrix_sum.f k a0_0 l0_1 a1_0 l1_1).bind fun bt509 => ((impl_size_int64.f bt509.2).bind fun t513 => ((impl_size_int64.f l0_1).bind fun t514 => ((impl_size_int64.f l1_1).bind fun t515 => (some (wrap64 ((wrap64 ((wrap64 (2 * t513)) - t514)) - t515))))))) = some r := h
 clear h
 obtain ⟨⟨t509, t510⟩, A3, H⟩ := qBd H
 (try dsimp only at H)
 obtain ⟨t513, A4, H⟩ := qBd H
 obtain ⟨t514, A5, H⟩ := qBd H
 obtain ⟨t515, A6, H⟩ := qBd H
 obtain rfl := Option.some.inj H
 go_enter Try.func62, Try.ntmps62
 try go_wp2_with (first | ((with_reducible refine gQd (N := 2) rfl ?_); refine xQe ?hg (N := 2) ?hd (cs := #[.int .i64 a0_0, .slice A0_1 l0_1.length c0_1]) (t := 27) ?hr ?_; (case hd => rfl); (case hg => rfl); (case hr => exact tH); intro gb507 hg w7 hbox hb; refine qM4 (bQT tB hb) hbox (tZ w hg) (tZ w hg) ?_; clear HB; intro HB BK507 GW507 GE507; clear hb hbox hg) | ((with_reducible refine gQd (N := 3) rfl ?_); refine xQe ?hg (N := 3) ?hd (cs := #[.int .i64 a1_0, .slice A1_1 l1_1.length c1_1]) (t := 27) ?hr ?_; (case hd => rfl); (case hg => rfl); (case hr => exact tH); intro gb508 hg w8 hbox hb; refine qM7 (tQ BK507.out hb) (bQT tB hb) hbox (tZ w hg) (tZ w hg) ((by rw [hg]; exact Nat.ne_of_lt (blk_lt (g := gb507) (o := .cells #[.int .i64 a0_0, .slice A0_1 l0_1.length c0_1] 27 (0, 0)) (tG BK507.out)) : gb507 ≠ gb508)) ((by rw [hg]; exact Nat.ne_of_gt (blk_lt (g := gb507) (o := .cells #[.int .i64 a0_0, .slice A0_1 l0_1.length c0_1] 27 (0, 0)) (tG BK507.out)) : gb508 ≠ gb507)) ?_; clear BK507 HB; intro BK507 HB BK508 GW508 GE508 NB507_508 NB508_507; clear hb hbox hg))
 have n0_ := Aq.mk (kQD BK507.out)
 have n1_ := Aq.mk (kQD BK508.out)
 have n2_ := Aq.mk (bQ1 HB.out)
 clear BK507
 clear BK508
 clear HB
 have BK507 := n0_
 have BK508 := n1_
 have HB := n2_
 clear n0_ n1_ n2_
 refine start_ (n := 15) (S := fun w' => w'.cell? ⟨gb507, 0, none⟩ = some (.int .i64 a0_0) ∧ w'.cell? ⟨gb507, 1, none⟩ = some (.slice A0_1 l0_1.length c0_1) ∧ w'.cell? ⟨gb508, 0, none⟩ = some (.int .i64 a1_0) ∧ w'.cell? ⟨gb508, 1, none⟩ = some (.slice A1_1 l1_1.length c1_1)) (ds := []) #[false, false, false, false, false, false, false, false, false, false, false, false, false, false, false] (by kernel_rfl) rfl rfl ⟨(kQC BK507.out 0).trans rfl, (kQC BK507.out 1).trans rfl, (kQC BK508.out 0).trans rfl, (kQC BK508.out 1).trans rfl⟩ (fun hHeld => ?_); refine with_tabW impl_Matrix_distance.tab1 impl_Matrix_distance.bits1 (fun HT_ HW_ => ?_)
 generalize w8.drew = w9 at BK507 BK508 HB hHeld ⊢
 refine tP0 6 11 (bm 15 64) ?_
 refine tP0 10 15 (bm 15 1088) ?_
 refine tT4 0 5 (bm 15 1089) ?_
 refine tT4 1 6 (bm 15 1091) ?_
 refine tT4 7 12 (bm 15 1219) ?_
 refine tT4 11 16 (bm 15 3267) ?_
 refine one_ (i := 2) (N := some 7) (bm 15 3271) rfl rfl (one_of HT_.out (by kernel_rfl)) (by decide) (fun K hK => ?_)
 refine goes_ Try.func58 (by kernel_rfl) rfl #[.agg #[.int .i64 a0_0, .slice A0_1 l0_1.length c0_1], .agg #[.int .i64 a1_0, .slice A1_1 l1_1.length c1_1]] (by rfl) rfl rfl tL ?_
 with_reducible refine (impl_Matrix_sum.calls k a0_0 (fun k_ => k_ < w.heap.size) _ _ l0_1 a1_0 (fun k_ => k_ < w.heap.size) _ _ l1_1 t509 t510 _ ?s1 ?s2 A3.out).mono ?_
 (case s1 => exact Kd.V_mk HC0_1.out (Kd.F_below (Kd.C_F (Kd.heap_int .i64) HR0_1.out) tB))
 (case s2 => exact Kd.V_mk HC1_1.out (Kd.F_below (Kd.C_F (Kd.heap_int .i64) HR1_1.out) tB))
 rintro e w10 ⟨v511, rfl, ho0, hb⟩
 refine ⟨_, rfl, ?_⟩
 have n0_ := Aq.mk (Kd.R_lower (Kd.R_mono (ok' := fun k_ => True) ho0 (fun _ hk_ => trivial)) (bQZ tB))
 have n1_ := Aq.mk (tQ BK507.out hb)
 have n2_ := Aq.mk (tQ BK508.out hb)
 have n3_ := Aq.mk (bQT tB hb)
 clear BK507
 clear BK508
 clear HB
 have HO512 := n0_
 have BK507 := n1_
 have BK508 := n2_
 have HB := n3_
 clear n0_ n1_ n2_ n3_
 (try clear hb)
 (try clear hb2)
 (try clear hk)
 (try clear hi)
 (try clear ho0)
 obtain ⟨Ao11, co11, eo11⟩ := Kd.R_slice HO512.out
 (first | subst eo11 | (injection eo11 with f1_ f2_ f3_; have f4_ := f1_.symm; have f5_ := f3_.symm; clear f1_ f2_ f3_; subst f4_; subst f5_))
 refine hK.out _ _ ⟨(kQC BK507.out 0).trans rfl, (kQC BK507.out 1).trans rfl, (kQC BK508.out 0).trans rfl, (kQC BK508.out 1).trans rfl⟩ (fun hHeld => ?_)
 clear hK K
 refine tN 7 ?_
 refine tP0 3 8 (bm 15 3279) ?_
 refine one_ (i := 4) (N := some 9) (bm 15 3295) rfl rfl (one_of HT_.out (by kernel_rfl)) (by decide) (fun K hK => ?_)
 refine goes_ Try.func41 (by kernel_rfl) rfl #[.slice Ao11 t510.length co11] (by rfl) rfl rfl tL ?_
 with_reducible refine (impl_size_int64.calls _ _ t510 t513 _ ?s1 ?s2 A4.out).mono ?_
 (case s1 => exact tC ((Kd.R_reads' HO512.out).2.2))
 (case s2 => exact (Kd.R_reads' HO512.out).2.1)
 rintro e w' ⟨rfl, ⟨nd, rfl⟩⟩
 refine ⟨_, rfl, ?_⟩
 refine hK.out _ _ ⟨(kQC BK507.out 0).trans rfl, (kQC BK507.out 1).trans rfl, (kQC BK508.out 0).trans rfl, (kQC BK508.out 1).trans rfl⟩ (fun hHeld => ?_)
 clear hK K
 refine tN 9 ?_
 refine tP0 5 10 (bm 15 3327) ?_
 refine one_ (i := 8) (N := some 13) (bm 15 3583) rfl rfl (one_of HT_.out (by kernel_rfl)) (by decide) (fun K hK => ?_)
 refine goes_ Try.func41 (by kernel_rfl) rfl #[.slice A0_1 l0_1.length c0_1] (by rfl) rfl rfl tL ?_
 with_reducible refine (impl_size_int64.calls _ _ l0_1 t514 _ ?s1 ?s2 A5.out).mono ?_
 (case s1 => exact tC ((Kd.C_below HR0_1.out tB)))
 (case s2 => exact HC0_1.out)
 rintro e w' ⟨rfl, ⟨nd, rfl⟩⟩
 refine ⟨_, rfl, ?_⟩
 refine hK.out _ _ ⟨(kQC BK507.out 0).trans rfl, (kQC BK507.out 1).trans rfl, (kQC BK508.out 0).trans rfl, (kQC BK508.out 1).trans rfl⟩ (fun hHeld => ?_)
 clear hK K
 refine tN 13 ?_
 refine tP0 9 14 (bm 15 4095) ?_
 refine one_ (i := 12) (N := some 17) (bm 15 8191) rfl rfl (one_of HT_.out (by kernel_rfl)) (by decide) (fun K hK => ?_)
 refine goes_ Try.func41 (by kernel_rfl) rfl #[.slice A1_1 l1_1.length c1_1] (by rfl) rfl rfl tL ?_
 with_reducible refine (impl_size_int64.calls _ _ l1_1 t515 _ ?s1 ?s2 A6.out).mono ?_
 (case s1 => exact tC ((Kd.C_below HR1_1.out tB)))
 (case s2 => exact HC1_1.out)
 rintro e w' ⟨rfl, ⟨nd, rfl⟩⟩
 refine ⟨_, rfl, ?_⟩
 refine hK.out _ _ ⟨(kQC BK507.out 0).trans rfl, (kQC BK507.out 1).trans rfl, (kQC BK508.out 0).trans rfl, (kQC BK508.out 1).trans rfl⟩ (fun hHeld => ?_)
 clear hK K
 refine tN 17 ?_
 refine tP0 13 18 (bm 15 16383) ?_
 refine tP0 14 4 (bm 15 32767) ?_
 refine done_ (done_of HT_.out (by kernel_rfl)) ?_
 try go_wp2
 go_ret
 exact ⟨tE, tB⟩
def impl_DistanceOf.f (k : Nat) (a0_0 : Int) (l0_1 : List Int) (a1_0 : Int) (l1_1 : List Int) : Option (Int × Int) := (impl_spacesCode.f k a0_0 l0_1 a1_0 l1_1).bind fun t518 => (if t518 = 0 then ((impl_Matrix_distance.f k a0_0 l0_1 a1_0 l1_1).bind fun t519 => (some (t519, 0))) else (some (0, t518)))
theorem impl_DistanceOf.mono : ∀ a0 a1 a2 a3 k, LeO (impl_DistanceOf.f k a0 a1 a2 a3) (impl_DistanceOf.f (k + 1) a0 a1 a2 a3) := by
 intro a0 a1 a2 a3 k
 unfold impl_DistanceOf.f
 repeat' first
  | (with_reducible first | apply impl_Matrix_distance.mono | apply impl_spacesCode.mono | exact LeO.refl _ | exact LeO.none _ | refine LeO.ite ?_ ?_ | refine LeO.bind ?_ (fun _ => ?_))
  | exact LeO.none _
  | refine LeO.ite ?_ ?_
  | refine LeO.bind ?_ (fun _ => ?_)
theorem impl_DistanceOf.calls (k : Nat) (a0_0 : Int) (A0_1 : Option Addr) (c0_1 : Nat) (l0_1 : List Int) (a1_0 : Int) (A1_1 : Option Addr) (c1_1 : Nat) (l1_1 : List Int) (r1 : Int) (r2 : Int) (w : World) (hr0_1 : Kd.C (Kd.int .i64) w A0_1 l0_1.length l0_1) (hc0_1 : l0_1.length ≤ c0_1) (hr1_1 : Kd.C (Kd.int .i64) w A1_1 l1_1.length l1_1) (hc1_1 : l1_1.length ≤ c1_1) (h : impl_DistanceOf.f k a0_0 l0_1 a1_0 l1_1 = some (r1, r2)) :
 Calls Try.prog 25 #[.agg #[.int .i64 a0_0, .slice A0_1 l0_1.length c0_1], .agg #[.int .i64 a1_0, .slice A1_1 l1_1.length c1_1]] w fun e w' => e = .returned (.tuple #[.int .i64 r1, .int .i64 r2]) ∧ Below w.heap.size w w' := by
 have hu27 := Try.underlying27
 have HR0_1 := Aq.mk hr0_1
 have HC0_1 := Aq.mk hc0_1
 clear hr0_1 hc0_1
 have HR1_1 := Aq.mk hr1_1
 have HC1_1 := Aq.mk hc1_1
 clear hr1_1 hc1_1
 have HB := Aq.mk (Below.refl w.heap.size w)
 have H : ((impl_spacesCode.f k a0_0 l0_1 a1_0 l1_1).bind fun t518 => (if t518 = 0 then ((impl_Matrix_distance.f k a0_0 l0_1 a1_0 l1_1).bind fun t519 => (some (t519, 0))) else (some (0, t518)))) = some (r1, r2) := h
 clear h
 obtain ⟨t518, A3, H⟩ := qBd H
 by_cases c4 : t518 = 0
 rotate_left
 ·rw [if_neg c4] at H
  have c4b0 := beq_eq_false_iff_ne.mpr c4
  have c4b1 := bne_iff_ne.mpr c4
  simp only [Option.some.injEq, Prod.mk.injEq] at H
  obtain ⟨rfl, rfl⟩ := H
  go_enter Try.func25, Try.ntmps25
  go_wp2_with (first | ((with_reducible refine gQd (N := 2) rfl ?_); refine xQe ?hg (N := 2) ?hd (cs := #[.int .i64 a0_0, .slice A0_1 l0_1.length c0_1]) (t := 27) ?hr ?_; (case hd => rfl); (case hg => rfl); (case hr => exact tH); intro gb516 hg w15 hbox hb; refine qM4 (bQT tB hb) hbox (tZ w hg) (tZ w hg) ?_; clear HB; intro HB BK516 GW516 GE516; clear hb hbox hg) | ((with_reducible refine gQd (N := 3) rfl ?_); refine xQe ?hg (N := 3) ?hd (cs := #[.int .i64 a1_0, .slice A1_1 l1_1.length c1_1]) (t := 27) ?hr ?_; (case hd => rfl); (case hg => rfl); (case hr => exact tH); intro gb517 hg w16 hbox hb; refine qM7 (tQ BK516.out hb) (bQT tB hb) hbox (tZ w hg) (tZ w hg) ((by rw [hg]; exact Nat.ne_of_lt (blk_lt (g := gb516) (o := .cells #[.int .i64 a0_0, .slice A0_1 l0_1.length c0_1] 27 (0, 0)) (tG BK516.out)) : gb516 ≠ gb517)) ((by rw [hg]; exact Nat.ne_of_gt (blk_lt (g := gb516) (o := .cells #[.int .i64 a0_0, .slice A0_1 l0_1.length c0_1] 27 (0, 0)) (tG BK516.out)) : gb517 ≠ gb516)) ?_; clear BK516 HB; intro BK516 HB BK517 GW517 GE517 NB516_517 NB517_516; clear hb hbox hg; have hnb17 := NB516_517.out; have hnc17 := NB517_516.out; have hcz18_0 : w16.cell? ⟨gb516, 0, none⟩ = some (.int .i64 a0_0) := (kQC BK516.out 0).trans rfl; have hcz18_1 : w16.cell? ⟨gb516, 1, none⟩ = some (.slice A0_1 l0_1.length c0_1) := (kQC BK516.out 1).trans rfl; have hfz18_0 := kQF BK516.out 0; have hfz18_1 := kQF BK516.out 1; have hcz19_0 : w16.cell? ⟨gb517, 0, none⟩ = some (.int .i64 a1_0) := (kQC BK517.out 0).trans rfl; have hcz19_1 : w16.cell? ⟨gb517, 1, none⟩ = some (.slice A1_1 l1_1.length c1_1) := (kQC BK517.out 1).trans rfl; have hfz19_0 := kQF BK517.out 0; have hfz19_1 := kQF BK517.out 1) | ((with_reducible refine gQc (f := 57) rfl ?_); refine goesL_ (some 9) rfl rfl Try.func57 (by kernel_rfl) rfl #[.agg #[.int .i64 a0_0, .slice A0_1 l0_1.length c0_1], .agg #[.int .i64 a1_0, .slice A1_1 l1_1.length c1_1]] rfl tL ?_; (with_reducible refine (impl_spacesCode.calls k a0_0 _ _ l0_1 a1_0 _ _ l1_1 t518 _ ?s1 ?s2 ?s3 ?s4 A3.out).mono ?_); (case s1 => exact tC ((Kd.C_below HR0_1.out HB.out))); (case s2 => exact HC0_1.out); (case s3 => exact tC ((Kd.C_below HR1_1.out HB.out))); (case s4 => exact HC1_1.out); rintro e w20 ⟨rfl, hb⟩; refine ⟨_, rfl, ?_⟩; refine qM3 (tQ BK516.out hb) (tQ BK517.out hb) (bQT tB hb) ?_; clear BK516 BK517 HB; intro BK516 BK517 HB; (try clear hb); (try clear hb2); (try clear hk); (try clear hi)))
  go_ret2
  exact ⟨tE, tB⟩
 rw [if_pos c4] at H
 have c4b0 := beq_iff_eq.mpr c4
 have c4b1 := bne_eq_false_iff_eq.mpr c4
 clear c4
 obtain ⟨t519, A5, H⟩ := qBd H
 simp only [Option.some.injEq, Prod.mk.injEq] at H
 obtain ⟨rfl, rfl⟩ := H
 go_enter Try.func25, Try.ntmps25
 go_wp2_with (first | ((with_reducible refine gQd (N := 2) rfl ?_); refine xQe ?hg (N := 2) ?hd (cs := #[.int .i64 a0_0, .slice A0_1 l0_1.length c0_1]) (t := 27) ?hr ?_; (case hd => rfl); (case hg => rfl); (case hr => exact tH); intro gb516 hg w6 hbox hb; refine qM4 (bQT tB hb) hbox (tZ w hg) (tZ w hg) ?_; clear HB; intro HB BK516 GW516 GE516; clear hb hbox hg) | ((with_reducible refine gQd (N := 3) rfl ?_); refine xQe ?hg (N := 3) ?hd (cs := #[.int .i64 a1_0, .slice A1_1 l1_1.length c1_1]) (t := 27) ?hr ?_; (case hd => rfl); (case hg => rfl); (case hr => exact tH); intro gb517 hg w7 hbox hb; refine qM7 (tQ BK516.out hb) (bQT tB hb) hbox (tZ w hg) (tZ w hg) ((by rw [hg]; exact Nat.ne_of_lt (blk_lt (g := gb516) (o := .cells #[.int .i64 a0_0, .slice A0_1 l0_1.length c0_1] 27 (0, 0)) (tG BK516.out)) : gb516 ≠ gb517)) ((by rw [hg]; exact Nat.ne_of_gt (blk_lt (g := gb516) (o := .cells #[.int .i64 a0_0, .slice A0_1 l0_1.length c0_1] 27 (0, 0)) (tG BK516.out)) : gb517 ≠ gb516)) ?_; clear BK516 HB; intro BK516 HB BK517 GW517 GE517 NB516_517 NB517_516; clear hb hbox hg; have hnb8 := NB516_517.out; have hnc8 := NB517_516.out; have hcz9_0 : w7.cell? ⟨gb516, 0, none⟩ = some (.int .i64 a0_0) := (kQC BK516.out 0).trans rfl; have hcz9_1 : w7.cell? ⟨gb516, 1, none⟩ = some (.slice A0_1 l0_1.length c0_1) := (kQC BK516.out 1).trans rfl; have hfz9_0 := kQF BK516.out 0; have hfz9_1 := kQF BK516.out 1; have hcz10_0 : w7.cell? ⟨gb517, 0, none⟩ = some (.int .i64 a1_0) := (kQC BK517.out 0).trans rfl; have hcz10_1 : w7.cell? ⟨gb517, 1, none⟩ = some (.slice A1_1 l1_1.length c1_1) := (kQC BK517.out 1).trans rfl; have hfz10_0 := kQF BK517.out 0; have hfz10_1 := kQF BK517.out 1) | ((with_reducible refine gQc (f := 57) rfl ?_); refine goesL_ (some 9) rfl rfl Try.func57 (by kernel_rfl) rfl #[.agg #[.int .i64 a0_0, .slice A0_1 l0_1.length c0_1], .agg #[.int .i64 a1_0, .slice A1_1 l1_1.length c1_1]] rfl tL ?_; (with_reducible refine (impl_spacesCode.calls k a0_0 _ _ l0_1 a1_0 _ _ l1_1 t518 _ ?s1 ?s2 ?s3 ?s4 A3.out).mono ?_); (case s1 => exact tC ((Kd.C_below HR0_1.out HB.out))); (case s2 => exact HC0_1.out); (case s3 => exact tC ((Kd.C_below HR1_1.out HB.out))); (case s4 => exact HC1_1.out); rintro e w11 ⟨rfl, hb⟩; refine ⟨_, rfl, ?_⟩; refine qM3 (tQ BK516.out hb) (tQ BK517.out hb) (bQT tB hb) ?_; clear BK516 BK517 HB; intro BK516 BK517 HB; (try clear hb); (try clear hb2); (try clear hk); (try clear hi); have hcz12_0 : w11.cell? ⟨gb516, 0, none⟩ = some (.int .i64 a0_0) := (kQC BK516.out 0).trans rfl; have hcz12_1 : w11.cell? ⟨gb516, 1, none⟩ = some (.slice A0_1 l0_1.length c0_1) := (kQC BK516.out 1).trans rfl; have hfz12_0 := kQF BK516.out 0; have hfz12_1 := kQF BK516.out 1; have hcz13_0 : w11.cell? ⟨gb517, 0, none⟩ = some (.int .i64 a1_0) := (kQC BK517.out 0).trans rfl; have hcz13_1 : w11.cell? ⟨gb517, 1, none⟩ = some (.slice A1_1 l1_1.length c1_1) := (kQC BK517.out 1).trans rfl; have hfz13_0 := kQF BK517.out 0; have hfz13_1 := kQF BK517.out 1) | ((with_reducible refine gQc (f := 62) rfl ?_); refine goesL_ (some 15) rfl rfl Try.func62 (by kernel_rfl) rfl #[.agg #[.int .i64 a0_0, .slice A0_1 l0_1.length c0_1], .agg #[.int .i64 a1_0, .slice A1_1 l1_1.length c1_1]] rfl tL ?_; (with_reducible refine (impl_Matrix_distance.calls k a0_0 _ _ l0_1 a1_0 _ _ l1_1 t519 _ ?s1 ?s2 ?s3 ?s4 A5.out).mono ?_); (case s1 => exact tC ((Kd.C_below HR0_1.out HB.out))); (case s2 => exact HC0_1.out); (case s3 => exact tC ((Kd.C_below HR1_1.out HB.out))); (case s4 => exact HC1_1.out); rintro e w14 ⟨rfl, hb⟩; refine ⟨_, rfl, ?_⟩; refine qM3 (tQ BK516.out hb) (tQ BK517.out hb) (bQT tB hb) ?_; clear BK516 BK517 HB; intro BK516 BK517 HB; (try clear hb); (try clear hb2); (try clear hk); (try clear hi)))
 go_ret2
 exact ⟨tE, tB⟩
end Go.Proofs.Ythjfilmdobkmlaa.P
