/- Functions of the program and what they tell, as the printing program wrote it. -/
import Derived.Test.YtpigghpimgkilaaPx0
import Derived.Test.YtpigghpimgkilaaPx2
import Derived.Test.YtpigghpimgkilaaPx3
import Derived.Test.YtpigghpimgkilaaPx8
import Derived.Test.YtpigghpimgkilaaPx14
namespace Go.Proofs.Ytpigghpimgkilaa.P
open Go.Shelf Go.RowKit Go.Proofs.YtpigghpimgkilaaW.PrintWords Go.Proofs.YtpigghpimgkilaaW.PrintLast Go.Proofs.YtpigghpimgkilaaW.PrintMore
attribute [local go_sem] max2_int min2_int max_two min_two max_three min_three max_four min_four
set_option linter.unusedVariables false
set_option linter.unusedSimpArgs false
set_option maxHeartbeats 8000000
set_option maxRecDepth 100000
def spec_l03Annihilator.l0 : Nat → List Int → List Int → Int → Int → Int → Option (List Int)
  | 0, _, _, _, _, _ => none
  | k + 1, x1, x5, x6, x405000, x405001 => if x6 < (x1.length : Int) then (if 0 ≤ x6 then ((spec_l03Value.f k x405000 x405001 x5 (rd x1 x6)).bind fun t409 => (if t409 = 0 then (spec_l03Annihilator.l0 k x1 x5 (wrap64 (x6 + 1)) x405000 x405001) else ((spec_l03Compose.f k x405000 x405001 (([t409, 1] : List Int)) x5).bind fun t413 => (spec_l03Annihilator.l0 k x1 t413 (wrap64 (x6 + 1)) x405000 x405001)))) else (none)) else (some x5)
def spec_l03Annihilator.f (k : Nat) (a0_0 : Int) (a0_1 : Int) (l1 : List Int) : Option (List Int) := spec_l03Annihilator.l0 k l1 (([1] : List Int)) 0 a0_0 a0_1
theorem spec_l03Annihilator.mono_l : ∀ k, (∀ y0 y1 y2 y3 y4, LeO (spec_l03Annihilator.l0 k y0 y1 y2 y3 y4) (spec_l03Annihilator.l0 (k + 1) y0 y1 y2 y3 y4))
 | 0 => fun _ _ _ _ _ r h => by simp [spec_l03Annihilator.l0] at h
 | k + 1 => by
  have ih0 := spec_l03Annihilator.mono_l k
  ·intro y0 y1 y2 y3 y4
   unfold spec_l03Annihilator.l0
   repeat' first
   | (with_reducible first | apply ih0 | apply spec_l03Compose.mono | apply spec_l03Value.mono | exact LeO.refl _ | exact LeO.none _ | refine LeO.ite ?_ ?_ | refine LeO.bind ?_ (fun _ => ?_))
   | exact LeO.none _
   | refine LeO.ite ?_ ?_
   | refine LeO.bind ?_ (fun _ => ?_)
theorem spec_l03Annihilator.mono : ∀ a0 a1 a2 k, LeO (spec_l03Annihilator.f k a0 a1 a2) (spec_l03Annihilator.f (k + 1) a0 a1 a2) := by
 intro a0 a1 a2 k
 have ih0 := spec_l03Annihilator.mono_l k
 unfold spec_l03Annihilator.f
 repeat' first
  | (with_reducible first | apply ih0 | apply spec_l03Compose.mono | apply spec_l03Value.mono | exact LeO.refl _ | exact LeO.none _ | refine LeO.ite ?_ ?_ | refine LeO.bind ?_ (fun _ => ?_))
  | exact LeO.none _
  | refine LeO.ite ?_ ?_
  | refine LeO.bind ?_ (fun _ => ?_)
def spec_l03Annihilator.T5 : Bool × List (List Nat × List Nat) := (true, [([], []), ([], []), ([], []), ([], []), ([2, 3], [2, 3]), ([4], [4]), ([0, 1, 5], [0, 1, 5]), ([6, 6, 0, 1, 2, 3, 4, 5, 6], [6])])
def spec_l03Annihilator.B5 : List Nat := [0, 0, 0, 0, 12, 28, 63, 127]
theorem spec_l03Annihilator.tab5 : rtab .any (opsOf Try.f35 5) = spec_l03Annihilator.T5 := by kernel_rfl
theorem spec_l03Annihilator.bits5 : waitsOk spec_l03Annihilator.T5.2 spec_l03Annihilator.B5 = true := by kernel_rfl
theorem spec_l03Annihilator.calls (k : Nat) (a0_0 : Int) (a0_1 : Int) (A1 : Option Addr) (c1 : Nat) (l1 : List Int) (r : List Int) (w : World) (hr1 : Kd.C (Kd.int .i64) w A1 l1.length l1) (hc1 : l1.length ≤ c1) (h : spec_l03Annihilator.f k a0_0 a0_1 l1 = some r) :
 Calls Try.prog 35 #[.agg #[.int .i64 a0_0, .int .i64 a0_1], .slice A1 l1.length c1] w fun e w' => ∃ v0_ : Value, e = .returned (v0_) ∧ Kd.R (Kd.int .i64) 2 w' w.heap.size (fun _ => True) v0_ r ∧ Below w.heap.size w w' := by
 have hu27 := Try.underlying27
 have HR1 := Aq.mk hr1
 have HC1 := Aq.mk hc1
 clear hr1 hc1
 have HB := Aq.mk (Below.refl w.heap.size w)
 have H : (spec_l03Annihilator.l0 k l1 (([1] : List Int)) 0 a0_0 a0_1) = some r := h
 clear h
 obtain ⟨y405, hy405⟩ : ∃ y_ : List Int, y_ = (([1] : List Int)) := ⟨_, rfl⟩
 replace H : (spec_l03Annihilator.l0 k l1 y405 0 a0_0 a0_1) = some r := by first | (rw [hy405]; with_reducible exact H) | (have H2_ := (Option.bind_some _ _).symm.trans H; rw [hy405]; with_reducible exact H2_) | (have H2_ := (Option.bind_some _ _).symm.trans H; with_reducible exact H2_) | with_reducible exact H | (rw [hy405]; exact H) | exact H
 have Ny405 := Aq.mk hy405
 clear hy405
 replace H' := Aq.mk H
 clear H
 go_enter Try.func35, Try.ntmps35
 go_wp2_with (first | ((with_reducible refine gQd (N := 2) rfl ?_); refine xQe ?hg (N := 2) ?hd (cs := #[.int .i64 a0_0, .int .i64 a0_1]) (t := 27) ?hr ?_; (case hd => rfl); (case hg => rfl); (case hr => exact tH); intro gb404 hg w3 hbox hb; refine qM4 (bQT tB hb) hbox (tZ w hg) (tZ w hg) ?_; clear HB; intro HB BK404 GW404 GE404; clear hb hbox hg) | ((with_reducible refine gQd (N := 8) rfl ?_); refine Kd.R_lit (Kd.int .i64) _ 2 ?hg (N := 8) ?hd (xs := ([1] : List Int)) (inner := [.int .i64 1]) (ok := fun _ => True) (okp := fun _ => True) ?hr ?hp (fun _ hk => hk) trivial (Below.refl _ _) (Nat.le_refl _) (by simp) ?_; (case hd => rfl); (case hg => rfl); (case hr => exact tH); (case hp => exact (Reps.one (show Kd.M (Kd.int .i64) _ _ _ 1 [.int .i64 1] from rfl) (Reps.none _ _))); intro v406 w4 ho5 hb hg_ hnew_; clear hg_ hnew_; (first | rw [← Ny405.out] at ho5 | (simp only [Int.reduceToNat] at ho5; rw [← Ny405.out] at ho5)); refine qM3 (Kd.R_lower ho5 (bQZ tB)) (tQ BK404.out hb) (bQT tB hb) ?_; clear BK404 HB; intro HO407 BK404 HB; clear hb ho5))
 go_loopg [5, 6] k (fun kq v5 v6 w' => ∃ (x5_1 : List Int) (x6_1 : Int), v6 = .int .i64 x6_1 ∧ Aq (spec_l03Annihilator.l0 kq l1 x5_1 x6_1 a0_0 a0_1 = some r) ∧ Aq (kq ≤ k) ∧ Aq (Kd.R (Kd.int .i64) 2 w' w.heap.size (fun _ => True) v5 x5_1) ∧ Aq (w'.heap[gb404]? = some (.cells #[.int .i64 a0_0, .int .i64 a0_1] 27 (0, 0))) ∧ Aq (Below w.heap.size w w'))
 case atStart => exact ⟨(y405), (0), tS, H', ⟨Nat.le_refl _⟩, ⟨tR HO407.out⟩, ⟨tG BK404.out⟩, ⟨tB⟩⟩
 clear H'
 try clear c1
 obtain ⟨x5_1, x6_1, rfl, HA, HK1, HO_5, BK404, HB⟩ := hrel
 cases gk with
 | zero => exact absurd HA.out (by simp [spec_l03Annihilator.l0])
 | succ k1 =>
  have H := HA.out
  clear HA
  simp only [spec_l03Annihilator.l0] at H
  by_cases c6 : x6_1 < (l1.length : Int)
  rotate_left
  ·rw [if_neg c6] at H
   have c6b0 := decide_eq_false c6
   clear c6
   obtain rfl := Option.some.inj H
   go_wp2
   go_ret
   exact ⟨_, tE, tR HO_5.out, tB⟩
  rw [if_pos c6] at H
  have c6b0 := decide_eq_true c6
  clear c6
  by_cases c7 : 0 ≤ x6_1
  rotate_left
  ·rw [if_neg c7] at H
   exact absurd H (by simp)
  rw [if_pos c7] at H
  have c7b0 := decide_eq_true c7
  clear c7
  obtain ⟨t409, A8, H⟩ := qBd H
  by_cases c9 : t409 = 0
  ·rw [if_pos c9] at H
   have c9b0 := beq_iff_eq.mpr c9
   have c9b1 := bne_eq_false_iff_eq.mpr c9
   clear c9
   replace H' := Aq.mk H
   clear H
   try go_wp2
   have n0_ := Aq.mk (Kd.RqD HO_5.out)
   have n1_ := Aq.mk (kQD BK404.out)
   have n2_ := Aq.mk (bQ1 HB.out)
   clear HO_5
   clear BK404
   clear HB
   have HO_5 := n0_
   have BK404 := n1_
   have HB := n2_
   clear n0_ n1_ n2_
   have p408 : 0 ≤ (x6_1 : Int) := of_decide_eq_true tA
   have q408 : x6_1 < (l1.length : Int) := of_decide_eq_true tA
   obtain ⟨ad408, e408, hx408_0⟩ := Kd.at_int HR1.out x6_1 p408 q408
   have hw408_0 := hx408_0
   cases e408
   replace hx408_0 := (HB.out.cell (World.block_lt_of_cell? w _ hx408_0)).trans hx408_0
   replace p408 := eq_true p408
   replace q408 := eq_true q408
   obtain ⟨Ao11, co11, eo11⟩ := Kd.R_slice HO_5.out
   (first | subst eo11 | (injection eo11 with f1_ f2_ f3_; have f4_ := f1_.symm; have f5_ := f3_.symm; clear f1_ f2_ f3_; subst f4_; subst f5_))
   refine start_ (n := 8) (S := fun w' => w'.cell? ⟨gb404, 0, none⟩ = some (.int .i64 a0_0) ∧ w'.cell? ⟨gb404, 1, none⟩ = some (.int .i64 a0_1) ∧ w'.cell? (ad408.add (x6_1).toNat) = some (.int .i64 (rd l1 x6_1))) (ds := []) #[false, false, false, false, false, false, false, false] (by kernel_rfl) rfl rfl ⟨(kQC BK404.out 0).trans rfl, (kQC BK404.out 1).trans rfl, (tcw tB hw408_0)⟩ (fun hHeld => ?_); refine with_tabW spec_l03Annihilator.tab5 spec_l03Annihilator.bits5 (fun HT_ HW_ => ?_)
   generalize wr.drew = w10 at HO_5 BK404 HB hx408_0 hHeld ⊢
   refine tP0 1 16 (bm 8 2) ?_
   refine tP0 2 17 (bm 8 6) ?_
   refine tP0 3 18 (bm 8 14) ?_
   refine tP0 4 19 (bm 8 30) ?_
   refine tT3 0 15 (bm 8 31) ?_
   refine tT3 5 20 (bm 8 63) ?_
   refine one_ (i := 6) (N := some 21) (bm 8 127) rfl rfl (one_of HT_.out (by kernel_rfl)) (by decide) (fun K hK => ?_)
   refine goes_ Try.func60 (by kernel_rfl) rfl #[.agg #[.int .i64 a0_0, .int .i64 a0_1], .slice Ao11 x5_1.length co11, .int .i64 (rd l1 x6_1)] (by rfl) rfl rfl tL ?_
   with_reducible refine (spec_l03Value.calls k1 a0_0 a0_1 _ _ x5_1 (rd l1 x6_1) t409 _ ?s1 ?s2 A8.out).mono ?_
   (case s1 => exact tC ((Kd.R_reads' HO_5.out).2.2))
   (case s2 => exact (Kd.R_reads' HO_5.out).2.1)
   rintro e w12 ⟨rfl, hb⟩
   refine ⟨_, rfl, ?_⟩
   have n0_ := Aq.mk (Kd.R_below (tR HO_5.out) hb)
   have n1_ := Aq.mk (tQ BK404.out hb)
   have n2_ := Aq.mk (bQT tB hb)
   clear HO_5
   clear BK404
   clear HB
   have HO_5 := n0_
   have BK404 := n1_
   have HB := n2_
   clear n0_ n1_ n2_
   (try clear hb)
   (try clear hb2)
   (try clear hk)
   (try clear hi)
   refine hK.out _ _ ⟨(kQC BK404.out 0).trans rfl, (kQC BK404.out 1).trans rfl, (tcw tB hw408_0)⟩ (fun hHeld => ?_)
   clear hK K
   refine tN 21 ?_
   refine tP0 7 7 (bm 8 255) ?_
   refine done_ (done_of HT_.out (by kernel_rfl)) ?_
   try go_wp2
   go_roundg k1
   case measure => have := HK1.out; omega
   case rel => exact ⟨(x5_1), (wrap64 (x6_1 + 1)), tS, H', ⟨by have := HK1.out; omega⟩, ⟨tR HO_5.out⟩, ⟨tG BK404.out⟩, ⟨tB⟩⟩
  rw [if_neg c9] at H
  have c9b0 := beq_eq_false_iff_ne.mpr c9
  have c9b1 := bne_iff_ne.mpr c9
  obtain ⟨y410, hy410⟩ : ∃ y_ : List Int, y_ = (([t409, 1] : List Int)) := ⟨_, rfl⟩
  replace H : ((spec_l03Compose.f k1 a0_0 a0_1 y410 x5_1).bind fun t413 => (spec_l03Annihilator.l0 k1 l1 t413 (wrap64 (x6_1 + 1)) a0_0 a0_1)) = some r := by first | (rw [hy410]; with_reducible exact H) | (have H2_ := (Option.bind_some _ _).symm.trans H; rw [hy410]; with_reducible exact H2_) | (have H2_ := (Option.bind_some _ _).symm.trans H; with_reducible exact H2_) | with_reducible exact H | (rw [hy410]; exact H) | exact H
  have Ny410 := Aq.mk hy410
  clear hy410
  obtain ⟨t413, A13, H⟩ := qBd H
  replace H' := Aq.mk H
  clear H
  try go_wp2
  have n0_ := Aq.mk (Kd.RqD HO_5.out)
  have n1_ := Aq.mk (kQD BK404.out)
  have n2_ := Aq.mk (bQ1 HB.out)
  clear HO_5
  clear BK404
  clear HB
  have HO_5 := n0_
  have BK404 := n1_
  have HB := n2_
  clear n0_ n1_ n2_
  have p408 : 0 ≤ (x6_1 : Int) := of_decide_eq_true tA
  have q408 : x6_1 < (l1.length : Int) := of_decide_eq_true tA
  obtain ⟨ad408, e408, hx408_0⟩ := Kd.at_int HR1.out x6_1 p408 q408
  have hw408_0 := hx408_0
  cases e408
  replace hx408_0 := (HB.out.cell (World.block_lt_of_cell? w _ hx408_0)).trans hx408_0
  replace p408 := eq_true p408
  replace q408 := eq_true q408
  obtain ⟨Ao15, co15, eo15⟩ := Kd.R_slice HO_5.out
  (first | subst eo15 | (injection eo15 with f1_ f2_ f3_; have f4_ := f1_.symm; have f5_ := f3_.symm; clear f1_ f2_ f3_; subst f4_; subst f5_))
  refine start_ (n := 8) (S := fun w' => w'.cell? ⟨gb404, 0, none⟩ = some (.int .i64 a0_0) ∧ w'.cell? ⟨gb404, 1, none⟩ = some (.int .i64 a0_1) ∧ w'.cell? (ad408.add (x6_1).toNat) = some (.int .i64 (rd l1 x6_1))) (ds := []) #[false, false, false, false, false, false, false, false] (by kernel_rfl) rfl rfl ⟨(kQC BK404.out 0).trans rfl, (kQC BK404.out 1).trans rfl, (tcw tB hw408_0)⟩ (fun hHeld => ?_); refine with_tabW spec_l03Annihilator.tab5 spec_l03Annihilator.bits5 (fun HT_ HW_ => ?_)
  generalize wr.drew = w14 at HO_5 BK404 HB hx408_0 hHeld ⊢
  refine tP0 1 16 (bm 8 2) ?_
  refine tP0 2 17 (bm 8 6) ?_
  refine tP0 3 18 (bm 8 14) ?_
  refine tP0 4 19 (bm 8 30) ?_
  refine tT3 0 15 (bm 8 31) ?_
  refine tT3 5 20 (bm 8 63) ?_
  refine one_ (i := 6) (N := some 21) (bm 8 127) rfl rfl (one_of HT_.out (by kernel_rfl)) (by decide) (fun K hK => ?_)
  refine goes_ Try.func60 (by kernel_rfl) rfl #[.agg #[.int .i64 a0_0, .int .i64 a0_1], .slice Ao15 x5_1.length co15, .int .i64 (rd l1 x6_1)] (by rfl) rfl rfl tL ?_
  with_reducible refine (spec_l03Value.calls k1 a0_0 a0_1 _ _ x5_1 (rd l1 x6_1) t409 _ ?s1 ?s2 A8.out).mono ?_
  (case s1 => exact tC ((Kd.R_reads' HO_5.out).2.2))
  (case s2 => exact (Kd.R_reads' HO_5.out).2.1)
  rintro e w16 ⟨rfl, hb⟩
  refine ⟨_, rfl, ?_⟩
  have n0_ := Aq.mk (Kd.R_below (tR HO_5.out) hb)
  have n1_ := Aq.mk (tQ BK404.out hb)
  have n2_ := Aq.mk (bQT tB hb)
  clear HO_5
  clear BK404
  clear HB
  have HO_5 := n0_
  have BK404 := n1_
  have HB := n2_
  clear n0_ n1_ n2_
  (try clear hb)
  (try clear hb2)
  (try clear hk)
  (try clear hi)
  refine hK.out _ _ ⟨(kQC BK404.out 0).trans rfl, (kQC BK404.out 1).trans rfl, (tcw tB hw408_0)⟩ (fun hHeld => ?_)
  clear hK K
  refine tN 21 ?_
  refine tP0 7 7 (bm 8 255) ?_
  refine done_ (done_of HT_.out (by kernel_rfl)) ?_
  have hcz17_0 : w16.cell? ⟨gb404, 0, none⟩ = some (.int .i64 a0_0) := (kQC BK404.out 0).trans rfl
  have hcz17_1 : w16.cell? ⟨gb404, 1, none⟩ = some (.int .i64 a0_1) := (kQC BK404.out 1).trans rfl
  have hfz17_0 := kQF BK404.out 0
  have hfz17_1 := kQF BK404.out 1
  try go_wp2_with (first | ((with_reducible refine gQd (N := 26) rfl ?_); refine Kd.R_lit (Kd.int .i64) _ 2 ?hg (N := 26) ?hd (xs := ([t409, 1] : List Int)) (inner := [.int .i64 t409, .int .i64 1]) (ok := fun _ => True) (okp := fun _ => True) ?hr ?hp (fun _ hk => hk) trivial (Below.refl _ _) (Nat.le_refl _) (by simp) ?_; (case hd => rfl); (case hg => rfl); (case hr => exact tH); (case hp => exact (Reps.one (show Kd.M (Kd.int .i64) _ _ _ t409 [.int .i64 t409] from rfl) (Reps.one (show Kd.M (Kd.int .i64) _ _ _ 1 [.int .i64 1] from rfl) (Reps.none _ _)))); intro v411 w18 ho19 hb hg_ hnew_; clear hg_ hnew_; (first | rw [← Ny410.out] at ho19 | (simp only [Int.reduceToNat] at ho19; rw [← Ny410.out] at ho19)); refine qM4 (Kd.R_elder' (tR HO_5.out) (Kd.R_base ho19) hb) (Kd.R_lower (Kd.R_new' ho19 (Kd.R_lt (tR HO_5.out))) (bQZ tB)) (tQ BK404.out hb) (bQT tB hb) ?_; clear HO_5 BK404 HB; intro HO_5 HO412 BK404 HB; clear hb ho19; obtain ⟨Ao20, co20, eo20⟩ := Kd.R_slice HO412.out; subst eo20) | ((with_reducible refine gQc (f := 32) rfl ?_); refine goesL_ (some 28) rfl rfl Try.func32 (by kernel_rfl) rfl #[.agg #[.int .i64 a0_0, .int .i64 a0_1], .slice Ao20 y410.length co20, .slice Ao15 x5_1.length co15] rfl tL ?_; (with_reducible refine (spec_l03Compose.calls k1 a0_0 a0_1 _ _ y410 _ _ x5_1 t413 _ ?s1 ?s2 ?s3 ?s4 A13.out).mono ?_); (case s1 => exact tC ((Kd.R_reads' HO412.out).2.2)); (case s2 => exact (Kd.R_reads' HO412.out).2.1); (case s3 => exact tC ((Kd.R_reads' HO_5.out).2.2)); (case s4 => exact (Kd.R_reads' HO_5.out).2.1); rintro e w21 ⟨v414, rfl, ho0, hb⟩; refine ⟨_, rfl, ?_⟩; refine qM5 (Kd.R_elder' (tR HO_5.out) (Kd.R_base ho0) hb) (Kd.R_elder' (tR HO412.out) (Kd.R_base ho0) hb) (Kd.R_lower (Kd.R_new' (Kd.R_new' ho0 (Kd.R_lt (tR HO_5.out))) (Kd.R_lt (tR HO412.out))) (bQZ tB)) (tQ BK404.out hb) (bQT tB hb) ?_; clear HO_5 HO412 BK404 HB; intro HO_5 HO412 HO415 BK404 HB; (try clear hb); (try clear hb2); (try clear hk); (try clear hi); (try clear ho0)))
  go_roundg k1
  case measure => have := HK1.out; omega
  case rel => exact ⟨(t413), (wrap64 (x6_1 + 1)), tS, H', ⟨by have := HK1.out; omega⟩, ⟨by (with_reducible repeat (first | apply Kd.RqA | apply Kd.RqN | apply Kd.RqD)); exact Kd.R_mono HO415.out (fun _ hk => trivial)⟩, ⟨tG BK404.out⟩, ⟨tB⟩⟩
def spec_AnnihilatorOf.f (k : Nat) (a0_0 : Int) (a0_1 : Int) (l1 : List Int) : Option (List Int × Int) := (spec_l01List.f k a0_0 a0_1 l1).bind fun t417 => (if t417 = 0 then ((spec_l03Annihilator.f k a0_0 a0_1 l1).bind fun t418 => (some (t418, 0))) else (some ((([] : List Int)), t417)))
theorem spec_AnnihilatorOf.mono : ∀ a0 a1 a2 k, LeO (spec_AnnihilatorOf.f k a0 a1 a2) (spec_AnnihilatorOf.f (k + 1) a0 a1 a2) := by
 intro a0 a1 a2 k
 unfold spec_AnnihilatorOf.f
 repeat' first
  | (with_reducible first | apply spec_l01List.mono | apply spec_l03Annihilator.mono | exact LeO.refl _ | exact LeO.none _ | refine LeO.ite ?_ ?_ | refine LeO.bind ?_ (fun _ => ?_))
  | exact LeO.none _
  | refine LeO.ite ?_ ?_
  | refine LeO.bind ?_ (fun _ => ?_)
theorem spec_AnnihilatorOf.calls (k : Nat) (a0_0 : Int) (a0_1 : Int) (A1 : Option Addr) (c1 : Nat) (l1 : List Int) (r1 : List Int) (r2 : Int) (w : World) (hr1 : Kd.C (Kd.int .i64) w A1 l1.length l1) (hc1 : l1.length ≤ c1) (h : spec_AnnihilatorOf.f k a0_0 a0_1 l1 = some (r1, r2)) :
 Calls Try.prog 16 #[.agg #[.int .i64 a0_0, .int .i64 a0_1], .slice A1 l1.length c1] w fun e w' => ∃ v0_ : Value, e = .returned (.tuple #[v0_, .int .i64 r2]) ∧ Kd.R (Kd.int .i64) 2 w' w.heap.size (fun _ => True) v0_ r1 ∧ Below w.heap.size w w' := by
 have hu27 := Try.underlying27
 have HR1 := Aq.mk hr1
 have HC1 := Aq.mk hc1
 clear hr1 hc1
 have HB := Aq.mk (Below.refl w.heap.size w)
 have H : ((spec_l01List.f k a0_0 a0_1 l1).bind fun t417 => (if t417 = 0 then ((spec_l03Annihilator.f k a0_0 a0_1 l1).bind fun t418 => (some (t418, 0))) else (some ((([] : List Int)), t417)))) = some (r1, r2) := h
 clear h
 obtain ⟨t417, A3, H⟩ := qBd H
 by_cases c4 : t417 = 0
 ·rw [if_pos c4] at H
  have c4b0 := beq_iff_eq.mpr c4
  have c4b1 := bne_eq_false_iff_eq.mpr c4
  clear c4
  obtain ⟨t418, A5, H⟩ := qBd H
  simp only [Option.some.injEq, Prod.mk.injEq] at H
  obtain ⟨rfl, rfl⟩ := H
  go_enter Try.func16, Try.ntmps16
  go_wp2_with (first | ((with_reducible refine gQd (N := 2) rfl ?_); refine xQe ?hg (N := 2) ?hd (cs := #[.int .i64 a0_0, .int .i64 a0_1]) (t := 27) ?hr ?_; (case hd => rfl); (case hg => rfl); (case hr => exact tH); intro gb416 hg w6 hbox hb; refine qM4 (bQT tB hb) hbox (tZ w hg) (tZ w hg) ?_; clear HB; intro HB BK416 GW416 GE416; clear hb hbox hg; have hcz7_0 : w6.cell? ⟨gb416, 0, none⟩ = some (.int .i64 a0_0) := (kQC BK416.out 0).trans rfl; have hcz7_1 : w6.cell? ⟨gb416, 1, none⟩ = some (.int .i64 a0_1) := (kQC BK416.out 1).trans rfl; have hfz7_0 := kQF BK416.out 0; have hfz7_1 := kQF BK416.out 1) | ((with_reducible refine gQc (f := 34) rfl ?_); refine goesL_ (some 9) rfl rfl Try.func34 (by kernel_rfl) rfl #[.agg #[.int .i64 a0_0, .int .i64 a0_1], .slice A1 l1.length c1] rfl tL ?_; (with_reducible refine (spec_l01List.calls k a0_0 a0_1 _ _ l1 t417 _ ?s1 ?s2 A3.out).mono ?_); (case s1 => exact tC ((Kd.C_below HR1.out HB.out))); (case s2 => exact HC1.out); rintro e w8 ⟨rfl, hb⟩; refine ⟨_, rfl, ?_⟩; refine qM2 (tQ BK416.out hb) (bQT tB hb) ?_; clear BK416 HB; intro BK416 HB; (try clear hb); (try clear hb2); (try clear hk); (try clear hi); have hcz9_0 : w8.cell? ⟨gb416, 0, none⟩ = some (.int .i64 a0_0) := (kQC BK416.out 0).trans rfl; have hcz9_1 : w8.cell? ⟨gb416, 1, none⟩ = some (.int .i64 a0_1) := (kQC BK416.out 1).trans rfl; have hfz9_0 := kQF BK416.out 0; have hfz9_1 := kQF BK416.out 1) | ((with_reducible refine gQc (f := 35) rfl ?_); refine goesL_ (some 16) rfl rfl Try.func35 (by kernel_rfl) rfl #[.agg #[.int .i64 a0_0, .int .i64 a0_1], .slice A1 l1.length c1] rfl tL ?_; (with_reducible refine (spec_l03Annihilator.calls k a0_0 a0_1 _ _ l1 t418 _ ?s1 ?s2 A5.out).mono ?_); (case s1 => exact tC ((Kd.C_below HR1.out HB.out))); (case s2 => exact HC1.out); rintro e w10 ⟨v419, rfl, ho0, hb⟩; refine ⟨_, rfl, ?_⟩; refine qM3 (Kd.R_lower ho0 (bQZ tB)) (tQ BK416.out hb) (bQT tB hb) ?_; clear BK416 HB; intro HO420 BK416 HB; (try clear hb); (try clear hb2); (try clear hk); (try clear hi); (try clear ho0)))
  go_ret2
  exact ⟨_, tE, tR HO420.out, tB⟩
 rw [if_neg c4] at H
 have c4b0 := beq_eq_false_iff_ne.mpr c4
 have c4b1 := bne_iff_ne.mpr c4
 obtain ⟨y421, hy421⟩ : ∃ y_ : List Int, y_ = (([] : List Int)) := ⟨_, rfl⟩
 replace H : (some (y421, t417)) = some (r1, r2) := by first | (rw [hy421]; with_reducible exact H) | (have H2_ := (Option.bind_some _ _).symm.trans H; rw [hy421]; with_reducible exact H2_) | (have H2_ := (Option.bind_some _ _).symm.trans H; with_reducible exact H2_) | with_reducible exact H | (rw [hy421]; exact H) | exact H
 have Ny421 := Aq.mk hy421
 clear hy421
 simp only [Option.some.injEq, Prod.mk.injEq] at H
 obtain ⟨rfl, rfl⟩ := H
 go_enter Try.func16, Try.ntmps16
 go_wp2_with (first | ((with_reducible refine gQd (N := 2) rfl ?_); refine xQe ?hg (N := 2) ?hd (cs := #[.int .i64 a0_0, .int .i64 a0_1]) (t := 27) ?hr ?_; (case hd => rfl); (case hg => rfl); (case hr => exact tH); intro gb416 hg w11 hbox hb; refine qM4 (bQT tB hb) hbox (tZ w hg) (tZ w hg) ?_; clear HB; intro HB BK416 GW416 GE416; clear hb hbox hg; have hcz12_0 : w11.cell? ⟨gb416, 0, none⟩ = some (.int .i64 a0_0) := (kQC BK416.out 0).trans rfl; have hcz12_1 : w11.cell? ⟨gb416, 1, none⟩ = some (.int .i64 a0_1) := (kQC BK416.out 1).trans rfl; have hfz12_0 := kQF BK416.out 0; have hfz12_1 := kQF BK416.out 1) | ((with_reducible refine gQc (f := 34) rfl ?_); refine goesL_ (some 9) rfl rfl Try.func34 (by kernel_rfl) rfl #[.agg #[.int .i64 a0_0, .int .i64 a0_1], .slice A1 l1.length c1] rfl tL ?_; (with_reducible refine (spec_l01List.calls k a0_0 a0_1 _ _ l1 t417 _ ?s1 ?s2 A3.out).mono ?_); (case s1 => exact tC ((Kd.C_below HR1.out HB.out))); (case s2 => exact HC1.out); rintro e w13 ⟨rfl, hb⟩; refine ⟨_, rfl, ?_⟩; refine qM2 (tQ BK416.out hb) (bQT tB hb) ?_; clear BK416 HB; intro BK416 HB; (try clear hb); (try clear hb2); (try clear hk); (try clear hi)) | ((with_reducible refine gQd (N := 12) rfl ?_); refine Kd.R_lit (Kd.int .i64) _ 2 ?hg (N := 12) ?hd (xs := ([] : List Int)) (inner := []) (ok := fun _ => True) (okp := fun _ => True) ?hr ?hp (fun _ hk => hk) trivial (Below.refl _ _) (Nat.le_refl _) (by simp) ?_; (case hd => rfl); (case hg => rfl); (case hr => exact tH); (case hp => exact (Reps.none _ _)); intro v422 w14 ho15 hb hg_ hnew_; clear hg_ hnew_; (first | rw [← Ny421.out] at ho15 | (simp only [Int.reduceToNat] at ho15; rw [← Ny421.out] at ho15)); refine qM3 (Kd.R_lower ho15 (bQZ tB)) (tQ BK416.out hb) (bQT tB hb) ?_; clear BK416 HB; intro HO423 BK416 HB; clear hb ho15))
 go_ret2
 exact ⟨_, tE, tR HO423.out, tB⟩
def impl_Field_code.f (k : Nat) (a0_0 : Int) (a0_1 : Int) (a1 : Bool) (l2 : List Int) : Option (Int) := (impl_ValidField.f k a0_0 a0_1).bind fun t425 => (if t425 = true then ((impl_Field_has.f k a0_0 a0_1 l2).bind fun t426 => (if t426 = true then (if a1 = true then (some 0) else (some 2)) else (some 2))) else (some 1))
theorem impl_Field_code.mono : ∀ a0 a1 a2 a3 k, LeO (impl_Field_code.f k a0 a1 a2 a3) (impl_Field_code.f (k + 1) a0 a1 a2 a3) := by
 intro a0 a1 a2 a3 k
 unfold impl_Field_code.f
 repeat' first
  | (with_reducible first | apply impl_Field_has.mono | apply impl_ValidField.mono | exact LeO.refl _ | exact LeO.none _ | refine LeO.ite ?_ ?_ | refine LeO.bind ?_ (fun _ => ?_))
  | exact LeO.none _
  | refine LeO.ite ?_ ?_
  | refine LeO.bind ?_ (fun _ => ?_)
theorem impl_Field_code.calls (k : Nat) (a0_0 : Int) (a0_1 : Int) (a1 : Bool) (A2 : Option Addr) (c2 : Nat) (l2 : List Int) (r : Int) (w : World) (hr2 : Kd.C (Kd.int .i64) w A2 l2.length l2) (hc2 : l2.length ≤ c2) (h : impl_Field_code.f k a0_0 a0_1 a1 l2 = some r) :
 Calls Try.prog 36 #[.agg #[.int .i64 a0_0, .int .i64 a0_1], .bool a1, .slice A2 l2.length c2] w fun e w' => e = .returned (.int .i64 r) ∧ Below w.heap.size w w' := by
 have hu27 := Try.underlying27
 have HR2 := Aq.mk hr2
 have HC2 := Aq.mk hc2
 clear hr2 hc2
 have HB := Aq.mk (Below.refl w.heap.size w)
 have H : ((impl_ValidField.f k a0_0 a0_1).bind fun t425 => (if t425 = true then ((impl_Field_has.f k a0_0 a0_1 l2).bind fun t426 => (if t426 = true then (if a1 = true then (some 0) else (some 2)) else (some 2))) else (some 1))) = some r := h
 clear h
 obtain ⟨t425, A4, H⟩ := qBd H
 by_cases c5 : t425 = true
 rotate_left
 ·replace c5 := Bool.eq_false_iff.mpr c5
  subst c5
  rw [if_neg (show ¬ (false = true) by decide)] at H
  obtain rfl := Option.some.inj H
  go_enter Try.func36, Try.ntmps36
  go_wp2_with (first | ((with_reducible refine gQd (N := 3) rfl ?_); refine xQe ?hg (N := 3) ?hd (cs := #[.int .i64 a0_0, .int .i64 a0_1]) (t := 27) ?hr ?_; (case hd => rfl); (case hg => rfl); (case hr => exact tH); intro gb424 hg w24 hbox hb; refine qM4 (bQT tB hb) hbox (tZ w hg) (tZ w hg) ?_; clear HB; intro HB BK424 GW424 GE424; clear hb hbox hg; have hcz25_0 : w24.cell? ⟨gb424, 0, none⟩ = some (.int .i64 a0_0) := (kQC BK424.out 0).trans rfl; have hcz25_1 : w24.cell? ⟨gb424, 1, none⟩ = some (.int .i64 a0_1) := (kQC BK424.out 1).trans rfl; have hfz25_0 := kQF BK424.out 0; have hfz25_1 := kQF BK424.out 1) | ((with_reducible refine gQc (f := 52) rfl ?_); refine goesL_ (some 9) rfl rfl Try.func52 (by kernel_rfl) rfl #[.agg #[.int .i64 a0_0, .int .i64 a0_1]] rfl tL ?_; (with_reducible refine (impl_ValidField.calls k a0_0 a0_1 false _ A4.out).mono ?_); rintro e w26 ⟨rfl, hb⟩; refine ⟨_, rfl, ?_⟩; refine qM2 (tQ BK424.out hb) (bQT tB hb) ?_; clear BK424 HB; intro BK424 HB; (try clear hb); (try clear hb2); (try clear hk); (try clear hi)))
  go_ret
  exact ⟨tE, tB⟩
 subst c5
 rw [if_pos rfl] at H
 obtain ⟨t426, A6, H⟩ := qBd H
 by_cases c7 : t426 = true
 rotate_left
 ·replace c7 := Bool.eq_false_iff.mpr c7
  subst c7
  rw [if_neg (show ¬ (false = true) by decide)] at H
  obtain rfl := Option.some.inj H
  go_enter Try.func36, Try.ntmps36
  go_wp2_with (first | ((with_reducible refine gQd (N := 3) rfl ?_); refine xQe ?hg (N := 3) ?hd (cs := #[.int .i64 a0_0, .int .i64 a0_1]) (t := 27) ?hr ?_; (case hd => rfl); (case hg => rfl); (case hr => exact tH); intro gb424 hg w19 hbox hb; refine qM4 (bQT tB hb) hbox (tZ w hg) (tZ w hg) ?_; clear HB; intro HB BK424 GW424 GE424; clear hb hbox hg; have hcz20_0 : w19.cell? ⟨gb424, 0, none⟩ = some (.int .i64 a0_0) := (kQC BK424.out 0).trans rfl; have hcz20_1 : w19.cell? ⟨gb424, 1, none⟩ = some (.int .i64 a0_1) := (kQC BK424.out 1).trans rfl; have hfz20_0 := kQF BK424.out 0; have hfz20_1 := kQF BK424.out 1) | ((with_reducible refine gQc (f := 52) rfl ?_); refine goesL_ (some 9) rfl rfl Try.func52 (by kernel_rfl) rfl #[.agg #[.int .i64 a0_0, .int .i64 a0_1]] rfl tL ?_; (with_reducible refine (impl_ValidField.calls k a0_0 a0_1 true _ A4.out).mono ?_); rintro e w21 ⟨rfl, hb⟩; refine ⟨_, rfl, ?_⟩; refine qM2 (tQ BK424.out hb) (bQT tB hb) ?_; clear BK424 HB; intro BK424 HB; (try clear hb); (try clear hb2); (try clear hk); (try clear hi); have hcz22_0 : w21.cell? ⟨gb424, 0, none⟩ = some (.int .i64 a0_0) := (kQC BK424.out 0).trans rfl; have hcz22_1 : w21.cell? ⟨gb424, 1, none⟩ = some (.int .i64 a0_1) := (kQC BK424.out 1).trans rfl; have hfz22_0 := kQF BK424.out 0; have hfz22_1 := kQF BK424.out 1) | ((with_reducible refine gQc (f := 61) rfl ?_); refine goesL_ (some 14) rfl rfl Try.func61 (by kernel_rfl) rfl #[.agg #[.int .i64 a0_0, .int .i64 a0_1], .slice A2 l2.length c2] rfl tL ?_; (with_reducible refine (impl_Field_has.calls k a0_0 a0_1 _ _ l2 false _ ?s1 ?s2 A6.out).mono ?_); (case s1 => exact tC ((Kd.C_below HR2.out HB.out))); (case s2 => exact HC2.out); rintro e w23 ⟨rfl, hb⟩; refine ⟨_, rfl, ?_⟩; refine qM2 (tQ BK424.out hb) (bQT tB hb) ?_; clear BK424 HB; intro BK424 HB; (try clear hb); (try clear hb2); (try clear hk); (try clear hi)))
  go_ret
  exact ⟨tE, tB⟩
 subst c7
 rw [if_pos rfl] at H
 by_cases c8 : a1 = true
 ·subst c8
  rw [if_pos rfl] at H
  obtain rfl := Option.some.inj H
  go_enter Try.func36, Try.ntmps36
  go_wp2_with (first | ((with_reducible refine gQd (N := 3) rfl ?_); refine xQe ?hg (N := 3) ?hd (cs := #[.int .i64 a0_0, .int .i64 a0_1]) (t := 27) ?hr ?_; (case hd => rfl); (case hg => rfl); (case hr => exact tH); intro gb424 hg w9 hbox hb; refine qM4 (bQT tB hb) hbox (tZ w hg) (tZ w hg) ?_; clear HB; intro HB BK424 GW424 GE424; clear hb hbox hg; have hcz10_0 : w9.cell? ⟨gb424, 0, none⟩ = some (.int .i64 a0_0) := (kQC BK424.out 0).trans rfl; have hcz10_1 : w9.cell? ⟨gb424, 1, none⟩ = some (.int .i64 a0_1) := (kQC BK424.out 1).trans rfl; have hfz10_0 := kQF BK424.out 0; have hfz10_1 := kQF BK424.out 1) | ((with_reducible refine gQc (f := 52) rfl ?_); refine goesL_ (some 9) rfl rfl Try.func52 (by kernel_rfl) rfl #[.agg #[.int .i64 a0_0, .int .i64 a0_1]] rfl tL ?_; (with_reducible refine (impl_ValidField.calls k a0_0 a0_1 true _ A4.out).mono ?_); rintro e w11 ⟨rfl, hb⟩; refine ⟨_, rfl, ?_⟩; refine qM2 (tQ BK424.out hb) (bQT tB hb) ?_; clear BK424 HB; intro BK424 HB; (try clear hb); (try clear hb2); (try clear hk); (try clear hi); have hcz12_0 : w11.cell? ⟨gb424, 0, none⟩ = some (.int .i64 a0_0) := (kQC BK424.out 0).trans rfl; have hcz12_1 : w11.cell? ⟨gb424, 1, none⟩ = some (.int .i64 a0_1) := (kQC BK424.out 1).trans rfl; have hfz12_0 := kQF BK424.out 0; have hfz12_1 := kQF BK424.out 1) | ((with_reducible refine gQc (f := 61) rfl ?_); refine goesL_ (some 14) rfl rfl Try.func61 (by kernel_rfl) rfl #[.agg #[.int .i64 a0_0, .int .i64 a0_1], .slice A2 l2.length c2] rfl tL ?_; (with_reducible refine (impl_Field_has.calls k a0_0 a0_1 _ _ l2 true _ ?s1 ?s2 A6.out).mono ?_); (case s1 => exact tC ((Kd.C_below HR2.out HB.out))); (case s2 => exact HC2.out); rintro e w13 ⟨rfl, hb⟩; refine ⟨_, rfl, ?_⟩; refine qM2 (tQ BK424.out hb) (bQT tB hb) ?_; clear BK424 HB; intro BK424 HB; (try clear hb); (try clear hb2); (try clear hk); (try clear hi)))
  go_ret
  exact ⟨tE, tB⟩
 replace c8 := Bool.eq_false_iff.mpr c8
 subst c8
 rw [if_neg (show ¬ (false = true) by decide)] at H
 obtain rfl := Option.some.inj H
 go_enter Try.func36, Try.ntmps36
 go_wp2_with (first | ((with_reducible refine gQd (N := 3) rfl ?_); refine xQe ?hg (N := 3) ?hd (cs := #[.int .i64 a0_0, .int .i64 a0_1]) (t := 27) ?hr ?_; (case hd => rfl); (case hg => rfl); (case hr => exact tH); intro gb424 hg w14 hbox hb; refine qM4 (bQT tB hb) hbox (tZ w hg) (tZ w hg) ?_; clear HB; intro HB BK424 GW424 GE424; clear hb hbox hg; have hcz15_0 : w14.cell? ⟨gb424, 0, none⟩ = some (.int .i64 a0_0) := (kQC BK424.out 0).trans rfl; have hcz15_1 : w14.cell? ⟨gb424, 1, none⟩ = some (.int .i64 a0_1) := (kQC BK424.out 1).trans rfl; have hfz15_0 := kQF BK424.out 0; have hfz15_1 := kQF BK424.out 1) | ((with_reducible refine gQc (f := 52) rfl ?_); refine goesL_ (some 9) rfl rfl Try.func52 (by kernel_rfl) rfl #[.agg #[.int .i64 a0_0, .int .i64 a0_1]] rfl tL ?_; (with_reducible refine (impl_ValidField.calls k a0_0 a0_1 true _ A4.out).mono ?_); rintro e w16 ⟨rfl, hb⟩; refine ⟨_, rfl, ?_⟩; refine qM2 (tQ BK424.out hb) (bQT tB hb) ?_; clear BK424 HB; intro BK424 HB; (try clear hb); (try clear hb2); (try clear hk); (try clear hi); have hcz17_0 : w16.cell? ⟨gb424, 0, none⟩ = some (.int .i64 a0_0) := (kQC BK424.out 0).trans rfl; have hcz17_1 : w16.cell? ⟨gb424, 1, none⟩ = some (.int .i64 a0_1) := (kQC BK424.out 1).trans rfl; have hfz17_0 := kQF BK424.out 0; have hfz17_1 := kQF BK424.out 1) | ((with_reducible refine gQc (f := 61) rfl ?_); refine goesL_ (some 14) rfl rfl Try.func61 (by kernel_rfl) rfl #[.agg #[.int .i64 a0_0, .int .i64 a0_1], .slice A2 l2.length c2] rfl tL ?_; (with_reducible refine (impl_Field_has.calls k a0_0 a0_1 _ _ l2 true _ ?s1 ?s2 A6.out).mono ?_); (case s1 => exact tC ((Kd.C_below HR2.out HB.out))); (case s2 => exact HC2.out); rintro e w18 ⟨rfl, hb⟩; refine ⟨_, rfl, ?_⟩; refine qM2 (tQ BK424.out hb) (bQT tB hb) ?_; clear BK424 HB; intro BK424 HB; (try clear hb); (try clear hb2); (try clear hk); (try clear hi)))
 go_ret
 exact ⟨tE, tB⟩
end Go.Proofs.Ytpigghpimgkilaa.P
