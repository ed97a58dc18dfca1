/- Functions of the program and what they tell, as the printing program wrote it. -/
import Derived.Test.YtbgbblgdbcjibaaPx0
import Derived.Test.YtbgbblgdbcjibaaPx1
import Derived.Test.YtbgbblgdbcjibaaPx3
import Derived.Test.YtbgbblgdbcjibaaPx6
namespace Go.Proofs.Ytbgbblgdbcjibaa.P
open Go.Shelf Go.RowKit Go.Proofs.YtbgbblgdbcjibaaW.PrintWords Go.Proofs.YtbgbblgdbcjibaaW.PrintLast Go.Proofs.YtbgbblgdbcjibaaW.PrintMore
attribute [local go_sem] max2_int min2_int max_two min_two max_three min_three max_four min_four
set_option linter.unusedVariables false
set_option linter.unusedSimpArgs false
set_option maxHeartbeats 8000000
set_option maxRecDepth 100000
def spec_l01Conjugates.l0 : Nat → Int → List Int → Int → Int → Int → Option (List Int)
  | 0, _, _, _, _, _ => none
  | k + 1, x1, x5, x6, x120000, x120001 => if x6 = x1 then (some x5) else (if x5.length < 17592186044416 then ((spec_l01Mul.f k x120000 x120001 x6 x6).bind fun t127 => (spec_l01Conjugates.l0 k x1 (x5 ++ [x6]) t127 x120000 x120001)) else (none))
def spec_l01Conjugates.f (k : Nat) (a0_0 : Int) (a0_1 : Int) (a1 : Int) : Option (List Int) := (spec_l01Mul.f k a0_0 a0_1 a1 a1).bind fun t123 => (spec_l01Conjugates.l0 k a1 (([a1] : List Int)) t123 a0_0 a0_1)
theorem spec_l01Conjugates.mono_l : ∀ k, (∀ y0 y1 y2 y3 y4, LeO (spec_l01Conjugates.l0 k y0 y1 y2 y3 y4) (spec_l01Conjugates.l0 (k + 1) y0 y1 y2 y3 y4))
 | 0 => fun _ _ _ _ _ r h => by simp [spec_l01Conjugates.l0] at h
 | k + 1 => by
  have ih0 := spec_l01Conjugates.mono_l k
  ·intro y0 y1 y2 y3 y4
   unfold spec_l01Conjugates.l0
   repeat' first
   | (with_reducible first | apply ih0 | apply spec_l01Mul.mono | exact LeO.refl _ | exact LeO.none _ | refine LeO.ite ?_ ?_ | refine LeO.bind ?_ (fun _ => ?_))
   | exact LeO.none _
   | refine LeO.ite ?_ ?_
   | refine LeO.bind ?_ (fun _ => ?_)
theorem spec_l01Conjugates.mono : ∀ a0 a1 a2 k, LeO (spec_l01Conjugates.f k a0 a1 a2) (spec_l01Conjugates.f (k + 1) a0 a1 a2) := by
 intro a0 a1 a2 k
 have ih0 := spec_l01Conjugates.mono_l k
 unfold spec_l01Conjugates.f
 repeat' first
  | (with_reducible first | apply ih0 | apply spec_l01Mul.mono | exact LeO.refl _ | exact LeO.none _ | refine LeO.ite ?_ ?_ | refine LeO.bind ?_ (fun _ => ?_))
  | exact LeO.none _
  | refine LeO.ite ?_ ?_
  | refine LeO.bind ?_ (fun _ => ?_)
theorem spec_l01Conjugates.calls (k : Nat) (a0_0 : Int) (a0_1 : Int) (a1 : Int) (r : List Int) (w : World) (h : spec_l01Conjugates.f k a0_0 a0_1 a1 = some r) :
 Calls Try.prog 31 #[.agg #[.int .i64 a0_0, .int .i64 a0_1], .int .i64 a1] w fun e w' => ∃ v0_ : Value, e = .returned (v0_) ∧ Kd.R (Kd.int .i64) 2 w' w.heap.size (fun _ => True) v0_ r ∧ Below w.heap.size w w' := by
 have hu26 := Try.underlying26
 have HB := Aq.mk (Below.refl w.heap.size w)
 have H : ((spec_l01Mul.f k a0_0 a0_1 a1 a1).bind fun t123 => (spec_l01Conjugates.l0 k a1 (([a1] : List Int)) t123 a0_0 a0_1)) = some r := h
 clear h
 obtain ⟨y120, hy120⟩ : ∃ y_ : List Int, y_ = (([a1] : List Int)) := ⟨_, rfl⟩
 replace H : ((spec_l01Mul.f k a0_0 a0_1 a1 a1).bind fun t123 => (spec_l01Conjugates.l0 k a1 y120 t123 a0_0 a0_1)) = some r := by first | (rw [hy120]; with_reducible exact H) | (have H2_ := (Option.bind_some _ _).symm.trans H; rw [hy120]; with_reducible exact H2_) | (have H2_ := (Option.bind_some _ _).symm.trans H; with_reducible exact H2_) | with_reducible exact H | (rw [hy120]; exact H) | exact H
 have Ny120 := Aq.mk hy120
 clear hy120
 obtain ⟨t123, A3, H⟩ := qBd H
 replace H' := Aq.mk H
 clear H
 go_enter Try.func31, Try.ntmps31
 go_wp2_with (first | ((with_reducible refine gQd (N := 2) rfl ?_); refine xQe ?hg (N := 2) ?hd (cs := #[.int .i64 a0_0, .int .i64 a0_1]) (t := 26) ?hr ?_; (case hd => rfl); (case hg => rfl); (case hr => exact tH); intro gb119 hg w4 hbox hb; refine qM4 (bQT tB hb) hbox (tZ w hg) (tZ w hg) ?_; clear HB; intro HB BK119 GW119 GE119; clear hb hbox hg) | ((with_reducible refine gQd (N := 8) rfl ?_); refine Kd.R_lit (Kd.int .i64) _ 2 ?hg (N := 8) ?hd (xs := ([a1] : List Int)) (inner := [.int .i64 a1]) (ok := fun _ => True) (okp := fun _ => True) ?hr ?hp (fun _ hk => hk) trivial (Below.refl _ _) (Nat.le_refl _) (by simp) ?_; (case hd => rfl); (case hg => rfl); (case hr => exact tH); (case hp => exact (Reps.one (show Kd.M (Kd.int .i64) _ _ _ a1 [.int .i64 a1] from rfl) (Reps.none _ _))); intro v121 w5 ho6 hb hg_ hnew_; clear hg_ hnew_; (first | rw [← Ny120.out] at ho6 | (simp only [Int.reduceToNat] at ho6; rw [← Ny120.out] at ho6)); refine qM3 (Kd.R_lower ho6 (bQZ tB)) (tQ BK119.out hb) (bQT tB hb) ?_; clear BK119 HB; intro HO122 BK119 HB; clear hb ho6; have hcz7_0 : w5.cell? ⟨gb119, 0, none⟩ = some (.int .i64 a0_0) := (kQC BK119.out 0).trans rfl; have hcz7_1 : w5.cell? ⟨gb119, 1, none⟩ = some (.int .i64 a0_1) := (kQC BK119.out 1).trans rfl; have hfz7_0 := kQF BK119.out 0; have hfz7_1 := kQF BK119.out 1) | ((with_reducible refine gQc (f := 48) rfl ?_); refine goesL_ (some 12) rfl rfl Try.func48 (by kernel_rfl) rfl #[.agg #[.int .i64 a0_0, .int .i64 a0_1], .int .i64 a1, .int .i64 a1] rfl tL ?_; (with_reducible refine (spec_l01Mul.calls k a0_0 a0_1 a1 a1 t123 _ A3.out).mono ?_); rintro e w8 ⟨rfl, hb⟩; refine ⟨_, rfl, ?_⟩; refine qM3 (Kd.R_below (tR HO122.out) hb) (tQ BK119.out hb) (bQT tB hb) ?_; clear HO122 BK119 HB; intro HO122 BK119 HB; (try clear hb); (try clear hb2); (try clear hk); (try clear hi)))
 go_loopg [5, 6] k (fun kq v5 v6 w' => ∃ (x5_1 : List Int) (x6_1 : Int), v6 = .int .i64 x6_1 ∧ Aq (spec_l01Conjugates.l0 kq a1 x5_1 x6_1 a0_0 a0_1 = some r) ∧ Aq (kq ≤ k) ∧ Aq (Kd.R (Kd.int .i64) 2 w' w.heap.size (fun _ => True) v5 x5_1) ∧ Aq (w'.heap[gb119]? = some (.cells #[.int .i64 a0_0, .int .i64 a0_1] 26 (0, 0))) ∧ Aq (Below w.heap.size w w'))
 case atStart => exact ⟨(y120), (t123), tS, H', ⟨Nat.le_refl _⟩, ⟨tR HO122.out⟩, ⟨tG BK119.out⟩, ⟨tB⟩⟩
 clear H'
 try clear hcz7_0
 try clear hcz7_1
 try clear hfz7_0
 try clear hfz7_1
 obtain ⟨x5_1, x6_1, rfl, HA, HK1, HO_5, BK119, HB⟩ := hrel
 cases gk with
 | zero => exact absurd HA.out (by simp [spec_l01Conjugates.l0])
 | succ k1 =>
  have H := HA.out
  clear HA
  simp only [spec_l01Conjugates.l0] at H
  by_cases c9 : x6_1 = a1
  ·rw [if_pos c9] at H
   have c9b0 := beq_iff_eq.mpr c9
   have c9b1 := bne_eq_false_iff_eq.mpr c9
   clear c9
   obtain rfl := Option.some.inj H
   go_wp2
   go_ret
   exact ⟨_, tE, tR HO_5.out, tB⟩
  rw [if_neg c9] at H
  have c9b0 := beq_eq_false_iff_ne.mpr c9
  have c9b1 := bne_iff_ne.mpr c9
  by_cases c10 : x5_1.length < 17592186044416
  rotate_left
  ·rw [if_neg c10] at H
   exact absurd H (by simp)
  rw [if_pos c10] at H
  have LMc10 := Aq.mk c10
  clear c10
  obtain ⟨y124, hy124⟩ : ∃ y_ : List Int, y_ = (x5_1 ++ [x6_1]) := ⟨_, rfl⟩
  replace H : ((spec_l01Mul.f k1 a0_0 a0_1 x6_1 x6_1).bind fun t127 => (spec_l01Conjugates.l0 k1 a1 y124 t127 a0_0 a0_1)) = some r := by first | (rw [hy124]; with_reducible exact H) | (have H2_ := (Option.bind_some _ _).symm.trans H; rw [hy124]; with_reducible exact H2_) | (have H2_ := (Option.bind_some _ _).symm.trans H; with_reducible exact H2_) | with_reducible exact H | (rw [hy124]; exact H) | exact H
  have Ny124 := Aq.mk hy124
  clear hy124
  obtain ⟨t127, A11, H⟩ := qBd H
  replace H' := Aq.mk H
  clear H
  go_wp2_with (first | ((with_reducible refine gate_builtin (b := .append) (xs := #[.tmp 20, .tmp 22]) rfl ?_); at_builtin; refine Kd.R_append (Kd.int .i64) (w0 := w) w.heap.size rfl (.tmp 20) (.tmp 22) 29 2 (.int .i64 0) 8 rfl Try.underlying29 info2 rfl (by decide) (by omega) u5 x5_1 x6_1 [.int .i64 x6_1] (fun _ => True) (fun _ => False) rfl rfl ?aP (fun _ hk => hk.elim) ?aF ?aO ?aB ?aS ?aL ?_; (case aP => exact rfl); (case aB => exact tB); (case aF => exact (fun _ _ => trivial)); (case aO => exact (tR HO_5.out)); (case aS => exact (bQZ tB)); (case aL => have := LMc10.out; omega); intro v125 w12 ho hb hg hat; rw [← Ny124.out] at ho; refine qM3 (blk_grown (g := gb119) (o := .cells #[.int .i64 a0_0, .int .i64 a0_1] 26 (0, 0)) (tG BK119.out) hg (Kd.R_ne HO_5.out BK119.out (by decide))) hb ho ?_; clear BK119 HB HO_5; intro BK119 HB HO126; clear ho hb hg hat; have hcz13_0 : w12.cell? ⟨gb119, 0, none⟩ = some (.int .i64 a0_0) := (kQC BK119.out 0).trans rfl; have hcz13_1 : w12.cell? ⟨gb119, 1, none⟩ = some (.int .i64 a0_1) := (kQC BK119.out 1).trans rfl; have hfz13_0 := kQF BK119.out 0; have hfz13_1 := kQF BK119.out 1) | ((with_reducible refine gQc (f := 48) rfl ?_); refine goesL_ (some 19) rfl rfl Try.func48 (by kernel_rfl) rfl #[.agg #[.int .i64 a0_0, .int .i64 a0_1], .int .i64 x6_1, .int .i64 x6_1] rfl tL ?_; (with_reducible refine (spec_l01Mul.calls k1 a0_0 a0_1 x6_1 x6_1 t127 _ A11.out).mono ?_); rintro e w14 ⟨rfl, hb⟩; refine ⟨_, rfl, ?_⟩; refine qM3 (Kd.R_below (tR HO126.out) hb) (tQ BK119.out hb) (bQT tB hb) ?_; clear HO126 BK119 HB; intro HO126 BK119 HB; (try clear hb); (try clear hb2); (try clear hk); (try clear hi)))
  go_roundg k1
  case measure => have := HK1.out; omega
  case rel => exact ⟨(y124), (t127), tS, H', ⟨by have := HK1.out; omega⟩, ⟨tR HO126.out⟩, ⟨tG BK119.out⟩, ⟨tB⟩⟩
def spec_FirstNormal.l0 : Nat → Int → Int → Int → Option (Int × Int)
  | 0, _, _, _ => none
  | k + 1, x4, x129000, x129001 => (spec_l01Conjugates.f k x129000 x129001 x4).bind fun t130 => ((spec_l01Basis.f k x129000 x129001 t130).bind fun t133 => (if t133 = true then (some (x4, 0)) else (spec_FirstNormal.l0 k (wrap64 (x4 + 1)) x129000 x129001)))
def spec_FirstNormal.f (k : Nat) (a0_0 : Int) (a0_1 : Int) : Option (Int × Int) := (spec_l01Ok.f k a0_0 a0_1).bind fun t129 => (if t129 = true then (spec_FirstNormal.l0 k 1 a0_0 a0_1) else (some (0, 1)))
theorem spec_FirstNormal.mono_l : ∀ k, (∀ y0 y1 y2, LeO (spec_FirstNormal.l0 k y0 y1 y2) (spec_FirstNormal.l0 (k + 1) y0 y1 y2))
 | 0 => fun _ _ _ r h => by simp [spec_FirstNormal.l0] at h
 | k + 1 => by
  have ih0 := spec_FirstNormal.mono_l k
  ·intro y0 y1 y2
   unfold spec_FirstNormal.l0
   repeat' first
   | (with_reducible first | apply ih0 | apply spec_l01Basis.mono | apply spec_l01Conjugates.mono | apply spec_l01Ok.mono | exact LeO.refl _ | exact LeO.none _ | refine LeO.ite ?_ ?_ | refine LeO.bind ?_ (fun _ => ?_))
   | exact LeO.none _
   | refine LeO.ite ?_ ?_
   | refine LeO.bind ?_ (fun _ => ?_)
theorem spec_FirstNormal.mono : ∀ a0 a1 k, LeO (spec_FirstNormal.f k a0 a1) (spec_FirstNormal.f (k + 1) a0 a1) := by
 intro a0 a1 k
 have ih0 := spec_FirstNormal.mono_l k
 unfold spec_FirstNormal.f
 repeat' first
  | (with_reducible first | apply ih0 | apply spec_l01Basis.mono | apply spec_l01Conjugates.mono | apply spec_l01Ok.mono | exact LeO.refl _ | exact LeO.none _ | refine LeO.ite ?_ ?_ | refine LeO.bind ?_ (fun _ => ?_))
  | exact LeO.none _
  | refine LeO.ite ?_ ?_
  | refine LeO.bind ?_ (fun _ => ?_)
theorem spec_FirstNormal.calls (k : Nat) (a0_0 : Int) (a0_1 : Int) (r1 : Int) (r2 : Int) (w : World) (h : spec_FirstNormal.f k a0_0 a0_1 = some (r1, r2)) :
 Calls Try.prog 9 #[.agg #[.int .i64 a0_0, .int .i64 a0_1]] w fun e w' => e = .returned (.tuple #[.int .i64 r1, .int .i64 r2]) ∧ Below w.heap.size w w' := by
 have hu26 := Try.underlying26
 have HB := Aq.mk (Below.refl w.heap.size w)
 have H : ((spec_l01Ok.f k a0_0 a0_1).bind fun t129 => (if t129 = true then (spec_FirstNormal.l0 k 1 a0_0 a0_1) else (some (0, 1)))) = some (r1, r2) := h
 clear h
 obtain ⟨t129, A2, H⟩ := qBd H
 by_cases c3 : t129 = true
 rotate_left
 ·replace c3 := Bool.eq_false_iff.mpr c3
  subst c3
  rw [if_neg (show ¬ (false = true) by decide)] at H
  simp only [Option.some.injEq, Prod.mk.injEq] at H
  obtain ⟨rfl, rfl⟩ := H
  go_enter Try.func9, Try.ntmps9
  go_wp2_with (first | ((with_reducible refine gQd (N := 1) rfl ?_); refine xQe ?hg (N := 1) ?hd (cs := #[.int .i64 a0_0, .int .i64 a0_1]) (t := 26) ?hr ?_; (case hd => rfl); (case hg => rfl); (case hr => exact tH); intro gb128 hg w18 hbox hb; refine qM4 (bQT tB hb) hbox (tZ w hg) (tZ w hg) ?_; clear HB; intro HB BK128 GW128 GE128; clear hb hbox hg; have hcz19_0 : w18.cell? ⟨gb128, 0, none⟩ = some (.int .i64 a0_0) := (kQC BK128.out 0).trans rfl; have hcz19_1 : w18.cell? ⟨gb128, 1, none⟩ = some (.int .i64 a0_1) := (kQC BK128.out 1).trans rfl; have hfz19_0 := kQF BK128.out 0; have hfz19_1 := kQF BK128.out 1) | ((with_reducible refine gQc (f := 29) rfl ?_); refine goesL_ (some 6) rfl rfl Try.func29 (by kernel_rfl) rfl #[.agg #[.int .i64 a0_0, .int .i64 a0_1]] rfl tL ?_; (with_reducible refine (spec_l01Ok.calls k a0_0 a0_1 false _ A2.out).mono ?_); rintro e w20 ⟨rfl, hb⟩; refine ⟨_, rfl, ?_⟩; refine qM2 (tQ BK128.out hb) (bQT tB hb) ?_; clear BK128 HB; intro BK128 HB; (try clear hb); (try clear hb2); (try clear hk); (try clear hi)))
  go_ret2
  exact ⟨tE, tB⟩
 subst c3
 rw [if_pos rfl] at H
 replace H' := Aq.mk H
 clear H
 go_enter Try.func9, Try.ntmps9
 go_wp2_with (first | ((with_reducible refine gQd (N := 1) rfl ?_); refine xQe ?hg (N := 1) ?hd (cs := #[.int .i64 a0_0, .int .i64 a0_1]) (t := 26) ?hr ?_; (case hd => rfl); (case hg => rfl); (case hr => exact tH); intro gb128 hg w4 hbox hb; refine qM4 (bQT tB hb) hbox (tZ w hg) (tZ w hg) ?_; clear HB; intro HB BK128 GW128 GE128; clear hb hbox hg; have hcz5_0 : w4.cell? ⟨gb128, 0, none⟩ = some (.int .i64 a0_0) := (kQC BK128.out 0).trans rfl; have hcz5_1 : w4.cell? ⟨gb128, 1, none⟩ = some (.int .i64 a0_1) := (kQC BK128.out 1).trans rfl; have hfz5_0 := kQF BK128.out 0; have hfz5_1 := kQF BK128.out 1) | ((with_reducible refine gQc (f := 29) rfl ?_); refine goesL_ (some 6) rfl rfl Try.func29 (by kernel_rfl) rfl #[.agg #[.int .i64 a0_0, .int .i64 a0_1]] rfl tL ?_; (with_reducible refine (spec_l01Ok.calls k a0_0 a0_1 true _ A2.out).mono ?_); rintro e w6 ⟨rfl, hb⟩; refine ⟨_, rfl, ?_⟩; refine qM2 (tQ BK128.out hb) (bQT tB hb) ?_; clear BK128 HB; intro BK128 HB; (try clear hb); (try clear hb2); (try clear hk); (try clear hi)))
 go_loopg [4] k (fun kq v4 w' => ∃ (x4_1 : Int), v4 = .int .i64 x4_1 ∧ Aq (spec_FirstNormal.l0 kq x4_1 a0_0 a0_1 = some (r1, r2)) ∧ Aq (kq ≤ k) ∧ Aq (w'.heap[gb128]? = some (.cells #[.int .i64 a0_0, .int .i64 a0_1] 26 (0, 0))) ∧ Aq (Below w.heap.size w w'))
 case atStart => exact ⟨(1), tS, H', ⟨Nat.le_refl _⟩, ⟨tG BK128.out⟩, ⟨tB⟩⟩
 clear H'
 try clear c3
 try clear hcz5_0
 try clear hcz5_1
 try clear hfz5_0
 try clear hfz5_1
 obtain ⟨x4_1, rfl, HA, HK1, BK128, HB⟩ := hrel
 cases gk with
 | zero => exact absurd HA.out (by simp [spec_FirstNormal.l0])
 | succ k1 =>
  have H := HA.out
  clear HA
  simp only [spec_FirstNormal.l0] at H
  obtain ⟨t130, A7, H⟩ := qBd H
  obtain ⟨t133, A8, H⟩ := qBd H
  by_cases c9 : t133 = true
  ·subst c9
   rw [if_pos rfl] at H
   simp only [Option.some.injEq, Prod.mk.injEq] at H
   obtain ⟨rfl, rfl⟩ := H
   try go_wp2
   have n0_ := Aq.mk (kQD BK128.out)
   have n1_ := Aq.mk (bQ1 HB.out)
   clear BK128
   clear HB
   have BK128 := n0_
   have HB := n1_
   clear n0_ n1_
   refine start_ (n := 6) (S := fun w' => w'.cell? ⟨gb128, 0, none⟩ = some (.int .i64 a0_0) ∧ w'.cell? ⟨gb128, 1, none⟩ = some (.int .i64 a0_1)) (ds := []) #[false, false, false, false, false, false] (by kernel_rfl) rfl rfl ⟨(kQC BK128.out 0).trans rfl, (kQC BK128.out 1).trans rfl⟩ (fun hHeld => ?_)
   generalize wr.drew = w10 at BK128 HB hHeld ⊢
   refine tP0k 2 10 (bm 6 4) ?_
   refine tT2k 0 8 (bm 6 5) ?_
   refine tT2k 1 9 (bm 6 7) ?_
   refine one_ (i := 3) (N := some 11) (bm 6 15) rfl rfl (by kernel_rfl) (by decide) (fun K hK => ?_)
   refine goes_ Try.func31 (by kernel_rfl) rfl #[.agg #[.int .i64 a0_0, .int .i64 a0_1], .int .i64 x4_1] (by rfl) rfl rfl tL ?_
   with_reducible refine (spec_l01Conjugates.calls k1 a0_0 a0_1 x4_1 t130 _ A7.out).mono ?_
   rintro e w11 ⟨v131, rfl, ho0, hb⟩
   refine ⟨_, rfl, ?_⟩
   have n0_ := Aq.mk (Kd.R_lower ho0 (bQZ tB))
   have n1_ := Aq.mk (tQ BK128.out hb)
   have n2_ := Aq.mk (bQT tB hb)
   clear BK128
   clear HB
   have HO132 := n0_
   have BK128 := n1_
   have HB := n2_
   clear n0_ n1_ n2_
   (try clear hb)
   (try clear hb2)
   (try clear hk)
   (try clear hi)
   (try clear ho0)
   obtain ⟨Ao12, co12, eo12⟩ := Kd.R_slice HO132.out
   (first | subst eo12 | (injection eo12 with f1_ f2_ f3_; have f4_ := f1_.symm; have f5_ := f3_.symm; clear f1_ f2_ f3_; subst f4_; subst f5_))
   refine hK.out _ _ ⟨(kQC BK128.out 0).trans rfl, (kQC BK128.out 1).trans rfl⟩ (fun hHeld => ?_)
   clear hK K
   refine tN 11 ?_
   refine one_ (i := 4) (N := some 12) (bm 6 31) rfl rfl (by kernel_rfl) (by decide) (fun K hK => ?_)
   refine goes_ Try.func30 (by kernel_rfl) rfl #[.agg #[.int .i64 a0_0, .int .i64 a0_1], .slice Ao12 t130.length co12] (by rfl) rfl rfl tL ?_
   with_reducible refine (spec_l01Basis.calls k1 a0_0 a0_1 _ _ t130 true _ ?s1 ?s2 A8.out).mono ?_
   (case s1 => exact tC ((Kd.R_reads' HO132.out).2.2))
   (case s2 => exact (Kd.R_reads' HO132.out).2.1)
   rintro e w13 ⟨rfl, hb⟩
   refine ⟨_, rfl, ?_⟩
   have n0_ := Aq.mk (Kd.R_below (tR HO132.out) hb)
   have n1_ := Aq.mk (tQ BK128.out hb)
   have n2_ := Aq.mk (bQT tB hb)
   clear HO132
   clear BK128
   clear HB
   have HO132 := n0_
   have BK128 := n1_
   have HB := n2_
   clear n0_ n1_ n2_
   (try clear hb)
   (try clear hb2)
   (try clear hk)
   (try clear hi)
   refine hK.out _ _ ⟨(kQC BK128.out 0).trans rfl, (kQC BK128.out 1).trans rfl⟩ (fun hHeld => ?_)
   clear hK K
   refine tN 12 ?_
   refine tP0k 5 13 (bm 6 63) ?_
   refine done_ (by kernel_rfl) ?_
   try go_wp2
   go_ret2
   exact ⟨tE, tB⟩
  replace c9 := Bool.eq_false_iff.mpr c9
  subst c9
  rw [if_neg (show ¬ (false = true) by decide)] at H
  replace H' := Aq.mk H
  clear H
  try go_wp2
  have n0_ := Aq.mk (kQD BK128.out)
  have n1_ := Aq.mk (bQ1 HB.out)
  clear BK128
  clear HB
  have BK128 := n0_
  have HB := n1_
  clear n0_ n1_
  refine start_ (n := 6) (S := fun w' => w'.cell? ⟨gb128, 0, none⟩ = some (.int .i64 a0_0) ∧ w'.cell? ⟨gb128, 1, none⟩ = some (.int .i64 a0_1)) (ds := []) #[false, false, false, false, false, false] (by kernel_rfl) rfl rfl ⟨(kQC BK128.out 0).trans rfl, (kQC BK128.out 1).trans rfl⟩ (fun hHeld => ?_)
  generalize wr.drew = w14 at BK128 HB hHeld ⊢
  refine tP0k 2 10 (bm 6 4) ?_
  refine tT2k 0 8 (bm 6 5) ?_
  refine tT2k 1 9 (bm 6 7) ?_
  refine one_ (i := 3) (N := some 11) (bm 6 15) rfl rfl (by kernel_rfl) (by decide) (fun K hK => ?_)
  refine goes_ Try.func31 (by kernel_rfl) rfl #[.agg #[.int .i64 a0_0, .int .i64 a0_1], .int .i64 x4_1] (by rfl) rfl rfl tL ?_
  with_reducible refine (spec_l01Conjugates.calls k1 a0_0 a0_1 x4_1 t130 _ A7.out).mono ?_
  rintro e w15 ⟨v131, rfl, ho0, hb⟩
  refine ⟨_, rfl, ?_⟩
  have n0_ := Aq.mk (Kd.R_lower ho0 (bQZ tB))
  have n1_ := Aq.mk (tQ BK128.out hb)
  have n2_ := Aq.mk (bQT tB hb)
  clear BK128
  clear HB
  have HO132 := n0_
  have BK128 := n1_
  have HB := n2_
  clear n0_ n1_ n2_
  (try clear hb)
  (try clear hb2)
  (try clear hk)
  (try clear hi)
  (try clear ho0)
  obtain ⟨Ao16, co16, eo16⟩ := Kd.R_slice HO132.out
  (first | subst eo16 | (injection eo16 with f1_ f2_ f3_; have f4_ := f1_.symm; have f5_ := f3_.symm; clear f1_ f2_ f3_; subst f4_; subst f5_))
  refine hK.out _ _ ⟨(kQC BK128.out 0).trans rfl, (kQC BK128.out 1).trans rfl⟩ (fun hHeld => ?_)
  clear hK K
  refine tN 11 ?_
  refine one_ (i := 4) (N := some 12) (bm 6 31) rfl rfl (by kernel_rfl) (by decide) (fun K hK => ?_)
  refine goes_ Try.func30 (by kernel_rfl) rfl #[.agg #[.int .i64 a0_0, .int .i64 a0_1], .slice Ao16 t130.length co16] (by rfl) rfl rfl tL ?_
  with_reducible refine (spec_l01Basis.calls k1 a0_0 a0_1 _ _ t130 false _ ?s1 ?s2 A8.out).mono ?_
  (case s1 => exact tC ((Kd.R_reads' HO132.out).2.2))
  (case s2 => exact (Kd.R_reads' HO132.out).2.1)
  rintro e w17 ⟨rfl, hb⟩
  refine ⟨_, rfl, ?_⟩
  have n0_ := Aq.mk (Kd.R_below (tR HO132.out) hb)
  have n1_ := Aq.mk (tQ BK128.out hb)
  have n2_ := Aq.mk (bQT tB hb)
  clear HO132
  clear BK128
  clear HB
  have HO132 := n0_
  have BK128 := n1_
  have HB := n2_
  clear n0_ n1_ n2_
  (try clear hb)
  (try clear hb2)
  (try clear hk)
  (try clear hi)
  refine hK.out _ _ ⟨(kQC BK128.out 0).trans rfl, (kQC BK128.out 1).trans rfl⟩ (fun hHeld => ?_)
  clear hK K
  refine tN 12 ?_
  refine tP0k 5 13 (bm 6 63) ?_
  refine done_ (by kernel_rfl) ?_
  try go_wp2
  go_roundg k1
  case measure => have := HK1.out; omega
  case rel => exact ⟨(wrap64 (x4_1 + 1)), tS, H', ⟨by have := HK1.out; omega⟩, ⟨tG BK128.out⟩, ⟨tB⟩⟩
def impl_Field_conjugates.l0 : Nat → Int → List Int → Int → Int → Int → Option (List Int)
  | 0, _, _, _, _, _ => none
  | k + 1, x1, x5, x6, x163000, x163001 => if x6 = x1 then (some x5) else (if x5.length < 17592186044416 then ((impl_Field_mul.f k x163000 x163001 x6 x6).bind fun t170 => (impl_Field_conjugates.l0 k x1 (x5 ++ [x6]) t170 x163000 x163001)) else (none))
def impl_Field_conjugates.f (k : Nat) (a0_0 : Int) (a0_1 : Int) (a1 : Int) : Option (List Int) := (impl_Field_mul.f k a0_0 a0_1 a1 a1).bind fun t166 => (impl_Field_conjugates.l0 k a1 (([a1] : List Int)) t166 a0_0 a0_1)
theorem impl_Field_conjugates.mono_l : ∀ k, (∀ y0 y1 y2 y3 y4, LeO (impl_Field_conjugates.l0 k y0 y1 y2 y3 y4) (impl_Field_conjugates.l0 (k + 1) y0 y1 y2 y3 y4))
 | 0 => fun _ _ _ _ _ r h => by simp [impl_Field_conjugates.l0] at h
 | k + 1 => by
  have ih0 := impl_Field_conjugates.mono_l k
  ·intro y0 y1 y2 y3 y4
   unfold impl_Field_conjugates.l0
   repeat' first
   | (with_reducible first | apply ih0 | apply impl_Field_mul.mono | exact LeO.refl _ | exact LeO.none _ | refine LeO.ite ?_ ?_ | refine LeO.bind ?_ (fun _ => ?_))
   | exact LeO.none _
   | refine LeO.ite ?_ ?_
   | refine LeO.bind ?_ (fun _ => ?_)
theorem impl_Field_conjugates.mono : ∀ a0 a1 a2 k, LeO (impl_Field_conjugates.f k a0 a1 a2) (impl_Field_conjugates.f (k + 1) a0 a1 a2) := by
 intro a0 a1 a2 k
 have ih0 := impl_Field_conjugates.mono_l k
 unfold impl_Field_conjugates.f
 repeat' first
  | (with_reducible first | apply ih0 | apply impl_Field_mul.mono | exact LeO.refl _ | exact LeO.none _ | refine LeO.ite ?_ ?_ | refine LeO.bind ?_ (fun _ => ?_))
  | exact LeO.none _
  | refine LeO.ite ?_ ?_
  | refine LeO.bind ?_ (fun _ => ?_)
theorem impl_Field_conjugates.calls (k : Nat) (a0_0 : Int) (a0_1 : Int) (a1 : Int) (r : List Int) (w : World) (h : impl_Field_conjugates.f k a0_0 a0_1 a1 = some r) :
 Calls Try.prog 34 #[.agg #[.int .i64 a0_0, .int .i64 a0_1], .int .i64 a1] w fun e w' => ∃ v0_ : Value, e = .returned (v0_) ∧ Kd.R (Kd.int .i64) 2 w' w.heap.size (fun _ => True) v0_ r ∧ Below w.heap.size w w' := by
 have hu26 := Try.underlying26
 have HB := Aq.mk (Below.refl w.heap.size w)
 have H : ((impl_Field_mul.f k a0_0 a0_1 a1 a1).bind fun t166 => (impl_Field_conjugates.l0 k a1 (([a1] : List Int)) t166 a0_0 a0_1)) = some r := h
 clear h
 obtain ⟨y163, hy163⟩ : ∃ y_ : List Int, y_ = (([a1] : List Int)) := ⟨_, rfl⟩
 replace H : ((impl_Field_mul.f k a0_0 a0_1 a1 a1).bind fun t166 => (impl_Field_conjugates.l0 k a1 y163 t166 a0_0 a0_1)) = some r := by first | (rw [hy163]; with_reducible exact H) | (have H2_ := (Option.bind_some _ _).symm.trans H; rw [hy163]; with_reducible exact H2_) | (have H2_ := (Option.bind_some _ _).symm.trans H; with_reducible exact H2_) | with_reducible exact H | (rw [hy163]; exact H) | exact H
 have Ny163 := Aq.mk hy163
 clear hy163
 obtain ⟨t166, A3, H⟩ := qBd H
 replace H' := Aq.mk H
 clear H
 go_enter Try.func34, Try.ntmps34
 go_wp2_with (first | ((with_reducible refine gQd (N := 2) rfl ?_); refine xQe ?hg (N := 2) ?hd (cs := #[.int .i64 a0_0, .int .i64 a0_1]) (t := 26) ?hr ?_; (case hd => rfl); (case hg => rfl); (case hr => exact tH); intro gb162 hg w4 hbox hb; refine qM4 (bQT tB hb) hbox (tZ w hg) (tZ w hg) ?_; clear HB; intro HB BK162 GW162 GE162; clear hb hbox hg) | ((with_reducible refine gQd (N := 8) rfl ?_); refine Kd.R_lit (Kd.int .i64) _ 2 ?hg (N := 8) ?hd (xs := ([a1] : List Int)) (inner := [.int .i64 a1]) (ok := fun _ => True) (okp := fun _ => True) ?hr ?hp (fun _ hk => hk) trivial (Below.refl _ _) (Nat.le_refl _) (by simp) ?_; (case hd => rfl); (case hg => rfl); (case hr => exact tH); (case hp => exact (Reps.one (show Kd.M (Kd.int .i64) _ _ _ a1 [.int .i64 a1] from rfl) (Reps.none _ _))); intro v164 w5 ho6 hb hg_ hnew_; clear hg_ hnew_; (first | rw [← Ny163.out] at ho6 | (simp only [Int.reduceToNat] at ho6; rw [← Ny163.out] at ho6)); refine qM3 (Kd.R_lower ho6 (bQZ tB)) (tQ BK162.out hb) (bQT tB hb) ?_; clear BK162 HB; intro HO165 BK162 HB; clear hb ho6; have hcz7_0 : w5.cell? ⟨gb162, 0, none⟩ = some (.int .i64 a0_0) := (kQC BK162.out 0).trans rfl; have hcz7_1 : w5.cell? ⟨gb162, 1, none⟩ = some (.int .i64 a0_1) := (kQC BK162.out 1).trans rfl; have hfz7_0 := kQF BK162.out 0; have hfz7_1 := kQF BK162.out 1) | ((with_reducible refine gQc (f := 52) rfl ?_); refine goesL_ (some 12) rfl rfl Try.func52 (by kernel_rfl) rfl #[.agg #[.int .i64 a0_0, .int .i64 a0_1], .int .i64 a1, .int .i64 a1] rfl tL ?_; (with_reducible refine (impl_Field_mul.calls k a0_0 a0_1 a1 a1 t166 _ A3.out).mono ?_); rintro e w8 ⟨rfl, hb⟩; refine ⟨_, rfl, ?_⟩; refine qM3 (Kd.R_below (tR HO165.out) hb) (tQ BK162.out hb) (bQT tB hb) ?_; clear HO165 BK162 HB; intro HO165 BK162 HB; (try clear hb); (try clear hb2); (try clear hk); (try clear hi)))
 go_loopg [5, 6] k (fun kq v5 v6 w' => ∃ (x5_1 : List Int) (x6_1 : Int), v6 = .int .i64 x6_1 ∧ Aq (impl_Field_conjugates.l0 kq a1 x5_1 x6_1 a0_0 a0_1 = some r) ∧ Aq (kq ≤ k) ∧ Aq (Kd.R (Kd.int .i64) 2 w' w.heap.size (fun _ => True) v5 x5_1) ∧ Aq (w'.heap[gb162]? = some (.cells #[.int .i64 a0_0, .int .i64 a0_1] 26 (0, 0))) ∧ Aq (Below w.heap.size w w'))
 case atStart => exact ⟨(y163), (t166), tS, H', ⟨Nat.le_refl _⟩, ⟨tR HO165.out⟩, ⟨tG BK162.out⟩, ⟨tB⟩⟩
 clear H'
 try clear hcz7_0
 try clear hcz7_1
 try clear hfz7_0
 try clear hfz7_1
 obtain ⟨x5_1, x6_1, rfl, HA, HK1, HO_5, BK162, HB⟩ := hrel
 cases gk with
 | zero => exact absurd HA.out (by simp [impl_Field_conjugates.l0])
 | succ k1 =>
  have H := HA.out
  clear HA
  simp only [impl_Field_conjugates.l0] at H
  by_cases c9 : x6_1 = a1
  ·rw [if_pos c9] at H
   have c9b0 := beq_iff_eq.mpr c9
   have c9b1 := bne_eq_false_iff_eq.mpr c9
   clear c9
   obtain rfl := Option.some.inj H
   go_wp2
   go_ret
   exact ⟨_, tE, tR HO_5.out, tB⟩
  rw [if_neg c9] at H
  have c9b0 := beq_eq_false_iff_ne.mpr c9
  have c9b1 := bne_iff_ne.mpr c9
  by_cases c10 : x5_1.length < 17592186044416
  rotate_left
  ·rw [if_neg c10] at H
   exact absurd H (by simp)
  rw [if_pos c10] at H
  have LMc10 := Aq.mk c10
  clear c10
  obtain ⟨y167, hy167⟩ : ∃ y_ : List Int, y_ = (x5_1 ++ [x6_1]) := ⟨_, rfl⟩
  replace H : ((impl_Field_mul.f k1 a0_0 a0_1 x6_1 x6_1).bind fun t170 => (impl_Field_conjugates.l0 k1 a1 y167 t170 a0_0 a0_1)) = some r := by first | (rw [hy167]; with_reducible exact H) | (have H2_ := (Option.bind_some _ _).symm.trans H; rw [hy167]; with_reducible exact H2_) | (have H2_ := (Option.bind_some _ _).symm.trans H; with_reducible exact H2_) | with_reducible exact H | (rw [hy167]; exact H) | exact H
  have Ny167 := Aq.mk hy167
  clear hy167
  obtain ⟨t170, A11, H⟩ := qBd H
  replace H' := Aq.mk H
  clear H
  go_wp2_with (first | ((with_reducible refine gate_builtin (b := .append) (xs := #[.tmp 20, .tmp 22]) rfl ?_); at_builtin; refine Kd.R_append (Kd.int .i64) (w0 := w) w.heap.size rfl (.tmp 20) (.tmp 22) 29 2 (.int .i64 0) 8 rfl Try.underlying29 info2 rfl (by decide) (by omega) u5 x5_1 x6_1 [.int .i64 x6_1] (fun _ => True) (fun _ => False) rfl rfl ?aP (fun _ hk => hk.elim) ?aF ?aO ?aB ?aS ?aL ?_; (case aP => exact rfl); (case aB => exact tB); (case aF => exact (fun _ _ => trivial)); (case aO => exact (tR HO_5.out)); (case aS => exact (bQZ tB)); (case aL => have := LMc10.out; omega); intro v168 w12 ho hb hg hat; rw [← Ny167.out] at ho; refine qM3 (blk_grown (g := gb162) (o := .cells #[.int .i64 a0_0, .int .i64 a0_1] 26 (0, 0)) (tG BK162.out) hg (Kd.R_ne HO_5.out BK162.out (by decide))) hb ho ?_; clear BK162 HB HO_5; intro BK162 HB HO169; clear ho hb hg hat; have hcz13_0 : w12.cell? ⟨gb162, 0, none⟩ = some (.int .i64 a0_0) := (kQC BK162.out 0).trans rfl; have hcz13_1 : w12.cell? ⟨gb162, 1, none⟩ = some (.int .i64 a0_1) := (kQC BK162.out 1).trans rfl; have hfz13_0 := kQF BK162.out 0; have hfz13_1 := kQF BK162.out 1) | ((with_reducible refine gQc (f := 52) rfl ?_); refine goesL_ (some 19) rfl rfl Try.func52 (by kernel_rfl) rfl #[.agg #[.int .i64 a0_0, .int .i64 a0_1], .int .i64 x6_1, .int .i64 x6_1] rfl tL ?_; (with_reducible refine (impl_Field_mul.calls k1 a0_0 a0_1 x6_1 x6_1 t170 _ A11.out).mono ?_); rintro e w14 ⟨rfl, hb⟩; refine ⟨_, rfl, ?_⟩; refine qM3 (Kd.R_below (tR HO169.out) hb) (tQ BK162.out hb) (bQT tB hb) ?_; clear HO169 BK162 HB; intro HO169 BK162 HB; (try clear hb); (try clear hb2); (try clear hk); (try clear hi)))
  go_roundg k1
  case measure => have := HK1.out; omega
  case rel => exact ⟨(y167), (t170), tS, H', ⟨by have := HK1.out; omega⟩, ⟨tR HO169.out⟩, ⟨tG BK162.out⟩, ⟨tB⟩⟩
end Go.Proofs.Ytbgbblgdbcjibaa.P
