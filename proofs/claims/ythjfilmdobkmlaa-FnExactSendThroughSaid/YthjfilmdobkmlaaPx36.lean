/- Functions of the program and what they tell, as the printing program wrote it. -/
import Derived.Test.YthjfilmdobkmlaaPx0
import Derived.Test.YthjfilmdobkmlaaPx4
import Derived.Test.YthjfilmdobkmlaaPx5
import Derived.Test.YthjfilmdobkmlaaPx6
import Derived.Test.YthjfilmdobkmlaaPx35
namespace Go.Proofs.Ythjfilmdobkmlaa.P
open Go.Shelf Go.RowKit Go.Proofs.YthjfilmdobkmlaaW.PrintWords Go.Proofs.YthjfilmdobkmlaaW.PrintLast Go.Proofs.YthjfilmdobkmlaaW.PrintMore
attribute [local go_sem] max2_int min2_int max_two min_two max_three min_three max_four min_four
set_option linter.unusedVariables false
set_option linter.unusedSimpArgs false
set_option maxHeartbeats 8000000
set_option maxRecDepth 100000
mutual
def spec_SendThrough.j0 : Nat → Bool → Int → List Int → Int → List Int → Int → List Int → Option (Int × List Int × Int)
  | 0, _, _, _, _, _, _, _ => none
  | k + 1, x19, x787000, x787001, x788000, x788001, x789000, x789001 => if x19 = true then (some (0, ([] : List Int), 1)) else (if x789000 = x787000 then (if (x787001.length : Int) > 0 then (spec_SendThrough.j1 k (x788000 != (x787001.length : Int)) x787000 x787001 x788000 x788001 x789000 x789001) else (spec_SendThrough.j1 k false x787000 x787001 x788000 x788001 x789000 x789001)) else (spec_SendThrough.j1 k true x787000 x787001 x788000 x788001 x789000 x789001))
def spec_SendThrough.j1 : Nat → Bool → Int → List Int → Int → List Int → Int → List Int → Option (Int × List Int × Int)
  | 0, _, _, _, _, _, _, _ => none
  | k + 1, x39, x787000, x787001, x788000, x788001, x789000, x789001 => if x39 = true then (some (0, ([] : List Int), 2)) else ((spec_l00Own.f x789001).bind fun t793 => (spec_SendThrough.l0 k t793 0 x787000 x787001 x788000 x788001))
def spec_SendThrough.l0 : Nat → List Int → Int → Int → List Int → Int → List Int → Option (Int × List Int × Int)
  | 0, _, _, _, _, _, _ => none
  | k + 1, x8, x9, x787000, x787001, x788000, x788001 => if x9 < (x788001.length : Int) then (if (x787001.length : Int) > 0 then (if 0 ≤ x9 then ((spec_l02Times.f k (rd x788001 x9) x787001).bind fun t797 => (if x8.length < 17592186044416 then (spec_SendThrough.l0 k (x8 ++ [t797]) (wrap64 (x9 + 1)) x787000 x787001 x788000 x788001) else (none))) else (none)) else ((spec_l02Echelon.f k x787000 x8).bind fun t801 => (some (x787000, t801, 0)))) else ((spec_l02Echelon.f k x787000 x8).bind fun t804 => (some (x787000, t804, 0)))
end
def spec_SendThrough.f (k : Nat) (a0_0 : Int) (l0_1 : List Int) (a1_0 : Int) (l1_1 : List Int) (a2_0 : Int) (l2_1 : List Int) : Option (Int × List Int × Int) := (spec_l02Space.f k a0_0 l0_1).bind fun t790 => (if t790 = true then ((spec_l02Ok.f k a1_0 l1_1).bind fun t791 => (if t791 = true then ((spec_l02Ok.f k a2_0 l2_1).bind fun t792 => (spec_SendThrough.j0 k (!t792) a0_0 l0_1 a1_0 l1_1 a2_0 l2_1)) else (spec_SendThrough.j0 k true a0_0 l0_1 a1_0 l1_1 a2_0 l2_1))) else (spec_SendThrough.j0 k true a0_0 l0_1 a1_0 l1_1 a2_0 l2_1))
theorem spec_SendThrough.mono_l : ∀ k, (∀ y0 y1 y2 y3 y4 y5 y6, LeO (spec_SendThrough.j0 k y0 y1 y2 y3 y4 y5 y6) (spec_SendThrough.j0 (k + 1) y0 y1 y2 y3 y4 y5 y6)) ∧ (∀ y0 y1 y2 y3 y4 y5 y6, LeO (spec_SendThrough.j1 k y0 y1 y2 y3 y4 y5 y6) (spec_SendThrough.j1 (k + 1) y0 y1 y2 y3 y4 y5 y6)) ∧ (∀ y0 y1 y2 y3 y4 y5, LeO (spec_SendThrough.l0 k y0 y1 y2 y3 y4 y5) (spec_SendThrough.l0 (k + 1) y0 y1 y2 y3 y4 y5))
 | 0 => ⟨fun _ _ _ _ _ _ _ r h => by simp [spec_SendThrough.j0] at h, fun _ _ _ _ _ _ _ r h => by simp [spec_SendThrough.j1] at h, fun _ _ _ _ _ _ r h => by simp [spec_SendThrough.l0] at h⟩
 | k + 1 => by
  obtain ⟨ih0, ih1, ih2⟩ := spec_SendThrough.mono_l k
  refine ⟨?_, ?_, ?_⟩ <;> intros <;> first | unfold spec_SendThrough.j0 | unfold spec_SendThrough.j1 | unfold spec_SendThrough.l0
  all_goals repeat' first
   | (with_reducible first | apply ih0 | apply ih1 | apply ih2 | apply spec_l02Echelon.mono | apply spec_l02Ok.mono | apply spec_l02Space.mono | apply spec_l02Times.mono | exact LeO.refl _ | exact LeO.none _ | refine LeO.ite ?_ ?_ | refine LeO.bind ?_ (fun _ => ?_))
   | exact LeO.none _
   | refine LeO.ite ?_ ?_
   | refine LeO.bind ?_ (fun _ => ?_)
theorem spec_SendThrough.mono : ∀ a0 a1 a2 a3 a4 a5 k, LeO (spec_SendThrough.f k a0 a1 a2 a3 a4 a5) (spec_SendThrough.f (k + 1) a0 a1 a2 a3 a4 a5) := by
 intro a0 a1 a2 a3 a4 a5 k
 obtain ⟨ih0, ih1, ih2⟩ := spec_SendThrough.mono_l k
 unfold spec_SendThrough.f
 repeat' first
  | (with_reducible first | apply ih0 | apply ih1 | apply ih2 | apply spec_l02Echelon.mono | apply spec_l02Ok.mono | apply spec_l02Space.mono | apply spec_l02Times.mono | exact LeO.refl _ | exact LeO.none _ | refine LeO.ite ?_ ?_ | refine LeO.bind ?_ (fun _ => ?_))
  | exact LeO.none _
  | refine LeO.ite ?_ ?_
  | refine LeO.bind ?_ (fun _ => ?_)
def spec_SendThrough.T9 : Bool × List (List Nat × List Nat) := (true, [([], []), ([], []), ([1], [1]), ([], []), ([2, 3], [2, 3]), ([4], [4]), ([], []), ([6], [6]), ([5, 7], [5, 7]), ([8], [8]), ([0, 9, 8], [0, 9]), ([10, 10, 0, 1, 2, 3, 4, 5, 6, 7, 8, 9, 10], [0, 10])])
def spec_SendThrough.B9 : List Nat := [0, 0, 2, 0, 14, 30, 0, 64, 254, 510, 1023, 2047]
theorem spec_SendThrough.tab9 : rtab .any (opsOf Try.f32 9) = spec_SendThrough.T9 := by kernel_rfl
theorem spec_SendThrough.bits9 : waitsOk spec_SendThrough.T9.2 spec_SendThrough.B9 = true := by kernel_rfl
def spec_SendThrough.T10 : Bool × List (List Nat × List Nat) := (true, [([], []), ([0], [0]), ([], []), ([2], [2]), ([], []), ([3, 4], [3, 4]), ([1, 5], [1, 5]), ([6, 5, 0, 1, 2, 3, 4, 5, 6], [6]), ([7, 0, 1, 2, 3, 4, 5, 6, 7], [])])
def spec_SendThrough.B10 : List Nat := [0, 1, 0, 4, 0, 28, 63, 127, 255]
theorem spec_SendThrough.tab10 : rtab .any (opsOf Try.f32 10) = spec_SendThrough.T10 := by kernel_rfl
theorem spec_SendThrough.bits10 : waitsOk spec_SendThrough.T10.2 spec_SendThrough.B10 = true := by kernel_rfl
theorem spec_SendThrough.calls (k : Nat) (a0_0 : Int) (A0_1 : Option Addr) (c0_1 : Nat) (l0_1 : List Int) (a1_0 : Int) (A1_1 : Option Addr) (c1_1 : Nat) (l1_1 : List Int) (a2_0 : Int) (A2_1 : Option Addr) (c2_1 : Nat) (l2_1 : List Int) (r1 : Int) (r2 : List Int) (r3 : Int) (w : World) (hr0_1 : Kd.C (Kd.int .i64) w A0_1 l0_1.length l0_1) (hc0_1 : l0_1.length ≤ c0_1) (hr1_1 : Kd.C (Kd.int .i64) w A1_1 l1_1.length l1_1) (hc1_1 : l1_1.length ≤ c1_1) (hr2_1 : Kd.C (Kd.int .i64) w A2_1 l2_1.length l2_1) (hc2_1 : l2_1.length ≤ c2_1) (h : spec_SendThrough.f k a0_0 l0_1 a1_0 l1_1 a2_0 l2_1 = some (r1, r2, r3)) :
 Calls Try.prog 32 #[.agg #[.int .i64 a0_0, .slice A0_1 l0_1.length c0_1], .agg #[.int .i64 a1_0, .slice A1_1 l1_1.length c1_1], .agg #[.int .i64 a2_0, .slice A2_1 l2_1.length c2_1]] w fun e w' => ∃ v1_ : Value, e = .returned (.tuple #[.agg #[.int .i64 r1, v1_], .int .i64 r3]) ∧ Kd.R (Kd.int .i64) 2 w' w.heap.size (fun _ => True) v1_ r2 ∧ Below w.heap.size w w' := by
 have hu27 := Try.underlying27
 have HR0_1 := Aq.mk hr0_1
 have HC0_1 := Aq.mk hc0_1
 clear hr0_1 hc0_1
 have HR1_1 := Aq.mk hr1_1
 have HC1_1 := Aq.mk hc1_1
 clear hr1_1 hc1_1
 have HR2_1 := Aq.mk hr2_1
 have HC2_1 := Aq.mk hc2_1
 clear hr2_1 hc2_1
 have HB := Aq.mk (Below.refl w.heap.size w)
 have H : ((spec_l02Space.f k a0_0 l0_1).bind fun t790 => (if t790 = true then ((spec_l02Ok.f k a1_0 l1_1).bind fun t791 => (if t791 = true then ((spec_l02Ok.f k a2_0 l2_1).bind fun t792 => (spec_SendThrough.j0 k (!t792) a0_0 l0_1 a1_0 l1_1 a2_0 l2_1)) else (spec_SendThrough.j0 k true a0_0 l0_1 a1_0 l1_1 a2_0 l2_1))) else (spec_SendThrough.j0 k true a0_0 l0_1 a1_0 l1_1 a2_0 l2_1))) = some (r1, r2, r3) := h
 clear h
 have HC4 := Aq.mk H
 clear H
 go_enter Try.func32, Try.ntmps32
 go_upto_region 1 with (first | ((with_reducible refine gQd (N := 3) rfl ?_); (try (refine gate_guard (by rfl) ?_; dsimp only)); refine xQe ?hg (N := 3) ?hd (cs := #[.int .i64 a0_0, .slice A0_1 l0_1.length c0_1]) (t := 27) ?hr ?_; (case hd => rfl); (case hg => rfl); (case hr => exact tH); intro gb786 hg w5 hbox hb; refine qM4 (bQT tB hb) hbox (tZ w hg) (tZ w hg) ?_; clear HB; intro HB BK786 GW786 GE786; clear hb hbox hg) | ((with_reducible refine gQd (N := 4) rfl ?_); (try (refine gate_guard (by rfl) ?_; dsimp only)); refine xQe ?hg (N := 4) ?hd (cs := #[.int .i64 a1_0, .slice A1_1 l1_1.length c1_1]) (t := 27) ?hr ?_; (case hd => rfl); (case hg => rfl); (case hr => exact tH); intro gb787 hg w6 hbox hb; refine qM7 (tQ BK786.out hb) (bQT tB hb) hbox (tZ w hg) (tZ w hg) ((by rw [hg]; exact Nat.ne_of_lt (blk_lt (g := gb786) (o := .cells #[.int .i64 a0_0, .slice A0_1 l0_1.length c0_1] 27 (0, 0)) (tG BK786.out)) : gb786 ≠ gb787)) ((by rw [hg]; exact Nat.ne_of_gt (blk_lt (g := gb786) (o := .cells #[.int .i64 a0_0, .slice A0_1 l0_1.length c0_1] 27 (0, 0)) (tG BK786.out)) : gb787 ≠ gb786)) ?_; clear BK786 HB; intro BK786 HB BK787 GW787 GE787 NB786_787 NB787_786; clear hb hbox hg) | ((with_reducible refine gQd (N := 5) rfl ?_); (try (refine gate_guard (by rfl) ?_; dsimp only)); refine xQe ?hg (N := 5) ?hd (cs := #[.int .i64 a2_0, .slice A2_1 l2_1.length c2_1]) (t := 27) ?hr ?_; (case hd => rfl); (case hg => rfl); (case hr => exact tH); intro gb788 hg w7 hbox hb; refine qM10 (tQ BK786.out hb) (tQ BK787.out hb) (bQT tB hb) hbox (tZ w hg) (tZ w hg) ((by rw [hg]; exact Nat.ne_of_lt (blk_lt (g := gb786) (o := .cells #[.int .i64 a0_0, .slice A0_1 l0_1.length c0_1] 27 (0, 0)) (tG BK786.out)) : gb786 ≠ gb788)) ((by rw [hg]; exact Nat.ne_of_gt (blk_lt (g := gb786) (o := .cells #[.int .i64 a0_0, .slice A0_1 l0_1.length c0_1] 27 (0, 0)) (tG BK786.out)) : gb788 ≠ gb786)) ((by rw [hg]; exact Nat.ne_of_lt (blk_lt (g := gb787) (o := .cells #[.int .i64 a1_0, .slice A1_1 l1_1.length c1_1] 27 (0, 0)) (tG BK787.out)) : gb787 ≠ gb788)) ((by rw [hg]; exact Nat.ne_of_gt (blk_lt (g := gb787) (o := .cells #[.int .i64 a1_0, .slice A1_1 l1_1.length c1_1] 27 (0, 0)) (tG BK787.out)) : gb788 ≠ gb787)) ?_; clear BK786 BK787 HB; intro BK786 BK787 HB BK788 GW788 GE788 NB786_788 NB788_786 NB787_788 NB788_787; clear hb hbox hg) | ((with_reducible refine gQd (N := 6) rfl ?_); (try (refine gate_guard (by rfl) ?_; dsimp only)); refine xQe ?hg (N := 6) ?hd (cs := #[.int .i64 0, .slice none 0 0]) (t := 27) ?hr ?_; (case hd => rfl); (case hg => rfl); (case hr => exact tH); intro gb789 hg w8 hbox hb; refine qM13 (tQ BK786.out hb) (tQ BK787.out hb) (tQ BK788.out hb) (bQT tB hb) hbox (tZ w hg) (tZ w hg) ((by rw [hg]; exact Nat.ne_of_lt (blk_lt (g := gb786) (o := .cells #[.int .i64 a0_0, .slice A0_1 l0_1.length c0_1] 27 (0, 0)) (tG BK786.out)) : gb786 ≠ gb789)) ((by rw [hg]; exact Nat.ne_of_gt (blk_lt (g := gb786) (o := .cells #[.int .i64 a0_0, .slice A0_1 l0_1.length c0_1] 27 (0, 0)) (tG BK786.out)) : gb789 ≠ gb786)) ((by rw [hg]; exact Nat.ne_of_lt (blk_lt (g := gb787) (o := .cells #[.int .i64 a1_0, .slice A1_1 l1_1.length c1_1] 27 (0, 0)) (tG BK787.out)) : gb787 ≠ gb789)) ((by rw [hg]; exact Nat.ne_of_gt (blk_lt (g := gb787) (o := .cells #[.int .i64 a1_0, .slice A1_1 l1_1.length c1_1] 27 (0, 0)) (tG BK787.out)) : gb789 ≠ gb787)) ((by rw [hg]; exact Nat.ne_of_lt (blk_lt (g := gb788) (o := .cells #[.int .i64 a2_0, .slice A2_1 l2_1.length c2_1] 27 (0, 0)) (tG BK788.out)) : gb788 ≠ gb789)) ((by rw [hg]; exact Nat.ne_of_gt (blk_lt (g := gb788) (o := .cells #[.int .i64 a2_0, .slice A2_1 l2_1.length c2_1] 27 (0, 0)) (tG BK788.out)) : gb789 ≠ gb788)) ?_; clear BK786 BK787 BK788 HB; intro BK786 BK787 BK788 HB BK789 GW789 GE789 NB786_789 NB789_786 NB787_789 NB789_787 NB788_789 NB789_788; clear hb hbox hg))
 (try simp only [Act.put, qSa, qSb, qSc])
 go_cut [19] (fun v19 wc => ∃ (kq : Nat) (x19_3 : Bool), v19 = .bool x19_3 ∧ Aq (spec_SendThrough.j0 kq x19_3 a0_0 l0_1 a1_0 l1_1 a2_0 l2_1 = some (r1, r2, r3)) ∧ Aq (kq ≤ k) ∧ Aq (wc.heap[gb786]? = some (.cells #[.int .i64 a0_0, (.slice A0_1 l0_1.length c0_1)] 27 (0, 0))) ∧ Aq (wc.heap[gb787]? = some (.cells #[.int .i64 a1_0, (.slice A1_1 l1_1.length c1_1)] 27 (0, 0))) ∧ Aq (wc.heap[gb788]? = some (.cells #[.int .i64 a2_0, (.slice A2_1 l2_1.length c2_1)] 27 (0, 0))) ∧ Aq (wc.heap[gb789]? = some (.cells #[.int .i64 0, (.slice none 0 0)] 27 (0, 0))) ∧ Aq (Below w.heap.size w wc))
 case first =>
  have H := HC4.out
  clear HC4
  obtain ⟨t790, A9, H⟩ := qBd H
  by_cases c10 : t790 = true
  rotate_left
  ·replace c10 := Bool.eq_false_iff.mpr c10
   subst c10
   rw [if_neg (show ¬ (false = true) by decide)] at H
   replace H' := Aq.mk H
   clear H
   go_wp2_with (first | ((with_reducible refine gQc (f := 45) rfl ?_); refine goesL_ (some 10) rfl rfl Try.func45 (by kernel_rfl) rfl #[.pointer (some ⟨gb786, 0, none⟩)] rfl tL ?_; (with_reducible refine (spec_l02Space.calls k (⟨gb786, 0, none⟩ : Addr) a0_0 A0_1 c0_1 l0_1 false _ ?s1 ?s2 ?s3 A9.out).mono ?_); (case s1 => exact tC ((Kd.C_below HR0_1.out HB.out))); (case s2 => exact HC0_1.out); (case s3 => exact AtC.of_blk (g := gb786) (t := 27) (cs := #[.int .i64 a0_0, .slice A0_1 l0_1.length c0_1]) (tG BK786.out) rfl); rintro e w16 ⟨rfl, hb⟩; refine ⟨_, rfl, ?_⟩; refine qM5 (tQ BK786.out hb) (tQ BK787.out hb) (tQ BK788.out hb) (tQ BK789.out hb) (bQT tB hb) ?_; clear BK786 BK787 BK788 BK789 HB; intro BK786 BK787 BK788 BK789 HB; (try clear hb); (try clear hb2); (try clear hk); (try clear hi)))
   go_meet
   case rel => exact ⟨_, (true), tS, H', ⟨tO⟩, ⟨tG BK786.out⟩, ⟨tG BK787.out⟩, ⟨tG BK788.out⟩, ⟨tG BK789.out⟩, ⟨tB⟩⟩
  subst c10
  rw [if_pos rfl] at H
  obtain ⟨t791, A11, H⟩ := qBd H
  by_cases c12 : t791 = true
  ·subst c12
   rw [if_pos rfl] at H
   obtain ⟨t792, A13, H⟩ := qBd H
   replace H' := Aq.mk H
   clear H
   go_wp2_with (first | ((with_reducible refine gQc (f := 45) rfl ?_); refine goesL_ (some 10) rfl rfl Try.func45 (by kernel_rfl) rfl #[.pointer (some ⟨gb786, 0, none⟩)] rfl tL ?_; (with_reducible refine (spec_l02Space.calls k (⟨gb786, 0, none⟩ : Addr) a0_0 A0_1 c0_1 l0_1 true _ ?s1 ?s2 ?s3 A9.out).mono ?_); (case s1 => exact tC ((Kd.C_below HR0_1.out HB.out))); (case s2 => exact HC0_1.out); (case s3 => exact AtC.of_blk (g := gb786) (t := 27) (cs := #[.int .i64 a0_0, .slice A0_1 l0_1.length c0_1]) (tG BK786.out) rfl); rintro e w14 ⟨rfl, hb⟩; refine ⟨_, rfl, ?_⟩; refine qM5 (tQ BK786.out hb) (tQ BK787.out hb) (tQ BK788.out hb) (tQ BK789.out hb) (bQT tB hb) ?_; clear BK786 BK787 BK788 BK789 HB; intro BK786 BK787 BK788 BK789 HB; (try clear hb); (try clear hb2); (try clear hk); (try clear hi)) | (go_at_call 75; (with_reducible refine (spec_l02Ok.calls k (⟨gb787, 0, none⟩ : Addr) a1_0 A1_1 c1_1 l1_1 true _ ?s1 ?s2 ?s3 A11.out).mono ?_); (case s1 => exact tC ((Kd.C_below HR1_1.out HB.out))); (case s2 => exact HC1_1.out); (case s3 => exact AtC.of_blk (g := gb787) (t := 27) (cs := #[.int .i64 a1_0, .slice A1_1 l1_1.length c1_1]) (tG BK787.out) rfl); rintro e w' ⟨rfl, ⟨nd, rfl⟩⟩) | (go_at_call 75; (with_reducible refine (spec_l02Ok.calls k (⟨gb788, 0, none⟩ : Addr) a2_0 A2_1 c2_1 l2_1 t792 _ ?s1 ?s2 ?s3 A13.out).mono ?_); (case s1 => exact tC ((Kd.C_below HR2_1.out tB))); (case s2 => exact HC2_1.out); (case s3 => exact AtC.of_blk (g := gb788) (t := 27) (cs := #[.int .i64 a2_0, .slice A2_1 l2_1.length c2_1]) (tG BK788.out) rfl); rintro e w' ⟨rfl, ⟨nd, rfl⟩⟩))
   go_meet
   case rel => exact ⟨_, (!t792), tS, H', ⟨tO⟩, ⟨tG BK786.out⟩, ⟨tG BK787.out⟩, ⟨tG BK788.out⟩, ⟨tG BK789.out⟩, ⟨tB⟩⟩
  replace c12 := Bool.eq_false_iff.mpr c12
  subst c12
  rw [if_neg (show ¬ (false = true) by decide)] at H
  replace H' := Aq.mk H
  clear H
  go_wp2_with (first | ((with_reducible refine gQc (f := 45) rfl ?_); refine goesL_ (some 10) rfl rfl Try.func45 (by kernel_rfl) rfl #[.pointer (some ⟨gb786, 0, none⟩)] rfl tL ?_; (with_reducible refine (spec_l02Space.calls k (⟨gb786, 0, none⟩ : Addr) a0_0 A0_1 c0_1 l0_1 true _ ?s1 ?s2 ?s3 A9.out).mono ?_); (case s1 => exact tC ((Kd.C_below HR0_1.out HB.out))); (case s2 => exact HC0_1.out); (case s3 => exact AtC.of_blk (g := gb786) (t := 27) (cs := #[.int .i64 a0_0, .slice A0_1 l0_1.length c0_1]) (tG BK786.out) rfl); rintro e w15 ⟨rfl, hb⟩; refine ⟨_, rfl, ?_⟩; refine qM5 (tQ BK786.out hb) (tQ BK787.out hb) (tQ BK788.out hb) (tQ BK789.out hb) (bQT tB hb) ?_; clear BK786 BK787 BK788 BK789 HB; intro BK786 BK787 BK788 BK789 HB; (try clear hb); (try clear hb2); (try clear hk); (try clear hi)) | (go_at_call 75; (with_reducible refine (spec_l02Ok.calls k (⟨gb787, 0, none⟩ : Addr) a1_0 A1_1 c1_1 l1_1 false _ ?s1 ?s2 ?s3 A11.out).mono ?_); (case s1 => exact tC ((Kd.C_below HR1_1.out HB.out))); (case s2 => exact HC1_1.out); (case s3 => exact AtC.of_blk (g := gb787) (t := 27) (cs := #[.int .i64 a1_0, .slice A1_1 l1_1.length c1_1]) (tG BK787.out) rfl); rintro e w' ⟨rfl, ⟨nd, rfl⟩⟩))
  go_meet
  case rel => exact ⟨_, (true), tS, H', ⟨tO⟩, ⟨tG BK786.out⟩, ⟨tG BK787.out⟩, ⟨tG BK788.out⟩, ⟨tG BK789.out⟩, ⟨tB⟩⟩
 clear HC4
 try clear c10
 try clear c12
 obtain ⟨kq, x19_3, rfl, HA, HJ3, BK786, BK787, BK788, BK789, HB⟩ := hcut
 cases kq with
 | zero => exact absurd HA.out (by simp [spec_SendThrough.j0])
 | succ kj3 =>
  have H := HA.out
  clear HA
  simp only [spec_SendThrough.j0] at H
  by_cases c17 : x19_3 = true
  ·subst c17
   rw [if_pos rfl] at H
   simp only [Option.some.injEq, Prod.mk.injEq] at H
   obtain ⟨rfl, rfl, rfl⟩ := H
   have hnb18 := NB789_786.out
   have hnc18 := NB786_789.out
   have hnb19 := NB789_787.out
   have hnc19 := NB787_789.out
   have hnb20 := NB789_788.out
   have hnc20 := NB788_789.out
   have hcz21_0 : wc.cell? ⟨gb789, 0, none⟩ = some (.int .i64 0) := (kQC BK789.out 0).trans rfl
   have hcz21_1 : wc.cell? ⟨gb789, 1, none⟩ = some (.slice none 0 0) := (kQC BK789.out 1).trans rfl
   have hfz21_0 := kQF BK789.out 0
   have hfz21_1 := kQF BK789.out 1
   go_wp2
   refine bodyPost_ret (results_ct rfl _ _ gb789 27 #[.int .i64 0, .slice none 0 0] (0, 0) _ rfl (by (with_reducible repeat (first | refine kQN ?_ _ | refine kQD ?_ | refine kQA ?_ _)); refine kQP (cs := #[.int .i64 0, .slice none 0 0]) ?_ 1 _ rfl; (with_reducible repeat (first | refine kQN ?_ _ | refine kQD ?_ | refine kQA ?_ _)); refine kQP (cs := #[.int .i64 0, .slice none 0 0]) ?_ 0 _ rfl; (with_reducible repeat (first | refine kQN ?_ _ | refine kQD ?_ | refine kQA ?_ _)); exact BK789.out) Try.underlying27 rfl (by kernel_rfl)) rfl ?_
   exact ⟨_, tE, by first | exact Kd.R_nil _ _ _ _ _ | exact Kd.N_nil _ _ _ _ _ | exact Kd.V_nil _ _ _ _ _ | exact Kd.Q_nil _ _ _ _ _ | exact Kd.S_nil _ _ _ _ _, tB⟩
  replace c17 := Bool.eq_false_iff.mpr c17
  subst c17
  rw [if_neg (show ¬ (false = true) by decide)] at H
  have HC22 := Aq.mk H
  clear H
  go_upto_region 3 with (fail)
  go_cut [39] (fun v39 wc => ∃ (kq : Nat) (x39_21 : Bool), v39 = .bool x39_21 ∧ Aq (spec_SendThrough.j1 kq x39_21 a0_0 l0_1 a1_0 l1_1 a2_0 l2_1 = some (r1, r2, r3)) ∧ Aq (kq ≤ kj3) ∧ Aq (wc.heap[gb786]? = some (.cells #[.int .i64 a0_0, (.slice A0_1 l0_1.length c0_1)] 27 (0, 0))) ∧ Aq (wc.heap[gb787]? = some (.cells #[.int .i64 a1_0, (.slice A1_1 l1_1.length c1_1)] 27 (0, 0))) ∧ Aq (wc.heap[gb788]? = some (.cells #[.int .i64 a2_0, (.slice A2_1 l2_1.length c2_1)] 27 (0, 0))) ∧ Aq (wc.heap[gb789]? = some (.cells #[.int .i64 0, (.slice none 0 0)] 27 (0, 0))) ∧ Aq (Below w.heap.size w wc))
  case first =>
   have H := HC22.out
   clear HC22
   by_cases c23 : a2_0 = a0_0
   rotate_left
   ·rw [if_neg c23] at H
    have c23b0 := beq_eq_false_iff_ne.mpr c23
    have c23b1 := bne_iff_ne.mpr c23
    (first | rw [c23b0] | (simp only [i64_w, i32_w]; rw [c23b0]) | skip)
    replace H' := Aq.mk H
    clear H
    have hnb41 := NB788_786.out
    have hnc41 := NB786_788.out
    have hnb42 := NB788_787.out
    have hnc42 := NB787_788.out
    have hnb43 := NB788_789.out
    have hnc43 := NB789_788.out
    have hcz44_0 : wc.cell? ⟨gb788, 0, none⟩ = some (.int .i64 a2_0) := (kQC BK788.out 0).trans rfl
    have hcz44_1 : wc.cell? ⟨gb788, 1, none⟩ = some (.slice A2_1 l2_1.length c2_1) := (kQC BK788.out 1).trans rfl
    have hfz44_0 := kQF BK788.out 0
    have hfz44_1 := kQF BK788.out 1
    have hnb45 := NB786_787.out
    have hnc45 := NB787_786.out
    have hnb46 := NB786_789.out
    have hnc46 := NB789_786.out
    have hcz47_0 : wc.cell? ⟨gb786, 0, none⟩ = some (.int .i64 a0_0) := (kQC BK786.out 0).trans rfl
    have hcz47_1 : wc.cell? ⟨gb786, 1, none⟩ = some (.slice A0_1 l0_1.length c0_1) := (kQC BK786.out 1).trans rfl
    have hfz47_0 := kQF BK786.out 0
    have hfz47_1 := kQF BK786.out 1
    go_wp2
    go_meet
    case rel => exact ⟨_, (true), tS, H', ⟨by have := HJ3.out; first | omega | exact Nat.le_refl _⟩, ⟨tG BK786.out⟩, ⟨tG BK787.out⟩, ⟨tG BK788.out⟩, ⟨tG BK789.out⟩, ⟨tB⟩⟩
   rw [if_pos c23] at H
   have c23b0 := beq_iff_eq.mpr c23
   have c23b1 := bne_eq_false_iff_eq.mpr c23
   clear c23
   (first | rw [c23b0] | (simp only [i64_w, i32_w]; rw [c23b0]) | skip)
   by_cases c24 : (l0_1.length : Int) > 0
   rotate_left
   ·rw [if_neg c24] at H
    have c24b0 := decide_eq_false c24
    have c24b1 : decide (0 < l0_1.length) = false := decide_eq_false (by omega)
    clear c24
    replace H' := Aq.mk H
    clear H
    have hnb34 := NB788_786.out
    have hnc34 := NB786_788.out
    have hnb35 := NB788_787.out
    have hnc35 := NB787_788.out
    have hnb36 := NB788_789.out
    have hnc36 := NB789_788.out
    have hcz37_0 : wc.cell? ⟨gb788, 0, none⟩ = some (.int .i64 a2_0) := (kQC BK788.out 0).trans rfl
    have hcz37_1 : wc.cell? ⟨gb788, 1, none⟩ = some (.slice A2_1 l2_1.length c2_1) := (kQC BK788.out 1).trans rfl
    have hfz37_0 := kQF BK788.out 0
    have hfz37_1 := kQF BK788.out 1
    have hnb38 := NB786_787.out
    have hnc38 := NB787_786.out
    have hnb39 := NB786_789.out
    have hnc39 := NB789_786.out
    have hcz40_0 : wc.cell? ⟨gb786, 0, none⟩ = some (.int .i64 a0_0) := (kQC BK786.out 0).trans rfl
    have hcz40_1 : wc.cell? ⟨gb786, 1, none⟩ = some (.slice A0_1 l0_1.length c0_1) := (kQC BK786.out 1).trans rfl
    have hfz40_0 := kQF BK786.out 0
    have hfz40_1 := kQF BK786.out 1
    go_wp2
    go_meet
    case rel => exact ⟨_, (false), tS, H', ⟨by have := HJ3.out; first | omega | exact Nat.le_refl _⟩, ⟨tG BK786.out⟩, ⟨tG BK787.out⟩, ⟨tG BK788.out⟩, ⟨tG BK789.out⟩, ⟨tB⟩⟩
   rw [if_pos c24] at H
   have c24b0 := decide_eq_true c24
   have c24b1 : decide (0 < l0_1.length) = true := decide_eq_true (by omega)
   clear c24
   replace H' := Aq.mk H
   clear H
   have hnb25 := NB788_786.out
   have hnc25 := NB786_788.out
   have hnb26 := NB788_787.out
   have hnc26 := NB787_788.out
   have hnb27 := NB788_789.out
   have hnc27 := NB789_788.out
   have hcz28_0 : wc.cell? ⟨gb788, 0, none⟩ = some (.int .i64 a2_0) := (kQC BK788.out 0).trans rfl
   have hcz28_1 : wc.cell? ⟨gb788, 1, none⟩ = some (.slice A2_1 l2_1.length c2_1) := (kQC BK788.out 1).trans rfl
   have hfz28_0 := kQF BK788.out 0
   have hfz28_1 := kQF BK788.out 1
   have hnb29 := NB786_787.out
   have hnc29 := NB787_786.out
   have hnb30 := NB786_789.out
   have hnc30 := NB789_786.out
   have hcz31_0 : wc.cell? ⟨gb786, 0, none⟩ = some (.int .i64 a0_0) := (kQC BK786.out 0).trans rfl
   have hcz31_1 : wc.cell? ⟨gb786, 1, none⟩ = some (.slice A0_1 l0_1.length c0_1) := (kQC BK786.out 1).trans rfl
   have hfz31_0 := kQF BK786.out 0
   have hfz31_1 := kQF BK786.out 1
   have hnb32 := NB787_789.out
   have hnc32 := NB789_787.out
   have hcz33_0 : wc.cell? ⟨gb787, 0, none⟩ = some (.int .i64 a1_0) := (kQC BK787.out 0).trans rfl
   have hcz33_1 : wc.cell? ⟨gb787, 1, none⟩ = some (.slice A1_1 l1_1.length c1_1) := (kQC BK787.out 1).trans rfl
   have hfz33_0 := kQF BK787.out 0
   have hfz33_1 := kQF BK787.out 1
   go_wp2
   go_meet
   case rel => exact ⟨_, ((a1_0 != (l0_1.length : Int))), tS, H', ⟨by have := HJ3.out; first | omega | exact Nat.le_refl _⟩, ⟨tG BK786.out⟩, ⟨tG BK787.out⟩, ⟨tG BK788.out⟩, ⟨tG BK789.out⟩, ⟨tB⟩⟩
  clear HC22
  try clear c10
  try clear c12
  try clear c17
  try clear c23
  try clear c23b0
  try clear c23b1
  try clear c24
  try clear c24b0
  try clear c24b1
  try clear hcz21_0
  try clear hcz21_1
  try clear hcz28_0
  try clear hcz28_1
  try clear hcz31_0
  try clear hcz31_1
  try clear hcz33_0
  try clear hcz33_1
  try clear hcz37_0
  try clear hcz37_1
  try clear hcz40_0
  try clear hcz40_1
  try clear hcz44_0
  try clear hcz44_1
  try clear hcz47_0
  try clear hcz47_1
  try clear hfz21_0
  try clear hfz21_1
  try clear hfz28_0
  try clear hfz28_1
  try clear hfz31_0
  try clear hfz31_1
  try clear hfz33_0
  try clear hfz33_1
  try clear hfz37_0
  try clear hfz37_1
  try clear hfz40_0
  try clear hfz40_1
  try clear hfz44_0
  try clear hfz44_1
  try clear hfz47_0
  try clear hfz47_1
  obtain ⟨kq, x39_21, rfl, HA, HJ21, BK786, BK787, BK788, BK789, HB⟩ := hcut
  cases kq with
  | zero => exact absurd HA.out (by simp [spec_SendThrough.j1])
  | succ kj21 =>
   have H := HA.out
   clear HA
   simp only [spec_SendThrough.j1] at H
   by_cases c48 : x39_21 = true
   ·subst c48
    rw [if_pos rfl] at H
    simp only [Option.some.injEq, Prod.mk.injEq] at H
    obtain ⟨rfl, rfl, rfl⟩ := H
    have hnb49 := NB789_786.out
    have hnc49 := NB786_789.out
    have hnb50 := NB789_787.out
    have hnc50 := NB787_789.out
    have hnb51 := NB789_788.out
    have hnc51 := NB788_789.out
    have hcz52_0 : wc.cell? ⟨gb789, 0, none⟩ = some (.int .i64 0) := (kQC BK789.out 0).trans rfl
    have hcz52_1 : wc.cell? ⟨gb789, 1, none⟩ = some (.slice none 0 0) := (kQC BK789.out 1).trans rfl
    have hfz52_0 := kQF BK789.out 0
    have hfz52_1 := kQF BK789.out 1
    go_wp2
    refine bodyPost_ret (results_ct rfl _ _ gb789 27 #[.int .i64 0, .slice none 0 0] (0, 0) _ rfl (by (with_reducible repeat (first | refine kQN ?_ _ | refine kQD ?_ | refine kQA ?_ _)); refine kQP (cs := #[.int .i64 0, .slice none 0 0]) ?_ 1 _ rfl; (with_reducible repeat (first | refine kQN ?_ _ | refine kQD ?_ | refine kQA ?_ _)); refine kQP (cs := #[.int .i64 0, .slice none 0 0]) ?_ 0 _ rfl; (with_reducible repeat (first | refine kQN ?_ _ | refine kQD ?_ | refine kQA ?_ _)); exact BK789.out) Try.underlying27 rfl (by kernel_rfl)) rfl ?_
    exact ⟨_, tE, by first | exact Kd.R_nil _ _ _ _ _ | exact Kd.N_nil _ _ _ _ _ | exact Kd.V_nil _ _ _ _ _ | exact Kd.Q_nil _ _ _ _ _ | exact Kd.S_nil _ _ _ _ _, tB⟩
   replace c48 := Bool.eq_false_iff.mpr c48
   subst c48
   rw [if_neg (show ¬ (false = true) by decide)] at H
   obtain ⟨t793, A53, H⟩ := qBd H
   replace H' := Aq.mk H
   clear H
   have hnb54 := NB788_786.out
   have hnc54 := NB786_788.out
   have hnb55 := NB788_787.out
   have hnc55 := NB787_788.out
   have hnb56 := NB788_789.out
   have hnc56 := NB789_788.out
   have hcz57_0 : wc.cell? ⟨gb788, 0, none⟩ = some (.int .i64 a2_0) := (kQC BK788.out 0).trans rfl
   have hcz57_1 : wc.cell? ⟨gb788, 1, none⟩ = some (.slice A2_1 l2_1.length c2_1) := (kQC BK788.out 1).trans rfl
   have hfz57_0 := kQF BK788.out 0
   have hfz57_1 := kQF BK788.out 1
   go_wp2_with (first | ((with_reducible refine gQc (f := 76) rfl ?_); refine goesL_ (some 43) rfl rfl Try.func76 (by kernel_rfl) rfl #[.slice A2_1 l2_1.length c2_1] rfl tL ?_; (with_reducible refine (spec_l00Own.calls _ _ l2_1 t793 _ ?s1 ?s2 A53.out).mono ?_); (case s1 => exact tC ((Kd.C_below HR2_1.out HB.out))); (case s2 => exact HC2_1.out); rintro e w58 ⟨v794, rfl, ho0, hb⟩; refine ⟨_, rfl, ?_⟩; refine qM6 (Kd.R_lower ho0 (bQZ tB)) (tQ BK786.out hb) (tQ BK787.out hb) (tQ BK788.out hb) (tQ BK789.out hb) (bQT tB hb) ?_; clear BK786 BK787 BK788 BK789 HB; intro HO795 BK786 BK787 BK788 BK789 HB; (try clear hb); (try clear hb2); (try clear hk); (try clear hi); (try clear ho0)))
   go_loopg [8, 9] kj21 (fun kq v8 v9 w' => ∃ (x8_3 : List Int) (x9_3 : Int), v9 = .int .i64 x9_3 ∧ Aq (spec_SendThrough.l0 kq x8_3 x9_3 a0_0 l0_1 a1_0 l1_1 = some (r1, r2, r3)) ∧ Aq (kq ≤ kj21) ∧ Aq (Kd.R (Kd.int .i64) 2 w' w.heap.size (fun _ => True) v8 x8_3) ∧ Aq (w'.heap[gb786]? = some (.cells #[.int .i64 a0_0, (.slice A0_1 l0_1.length c0_1)] 27 (0, 0))) ∧ Aq (w'.heap[gb787]? = some (.cells #[.int .i64 a1_0, (.slice A1_1 l1_1.length c1_1)] 27 (0, 0))) ∧ Aq (w'.heap[gb788]? = some (.cells #[.int .i64 a2_0, (.slice A2_1 l2_1.length c2_1)] 27 (0, 0))) ∧ Aq (w'.heap[gb789]? = some (.cells #[.int .i64 0, (.slice none 0 0)] 27 (0, 0))) ∧ Aq (Below w.heap.size w w'))
   case atStart => exact ⟨(t793), (0), tS, H', ⟨Nat.le_refl _⟩, ⟨tR HO795.out⟩, ⟨tG BK786.out⟩, ⟨tG BK787.out⟩, ⟨tG BK788.out⟩, ⟨tG BK789.out⟩, ⟨tB⟩⟩
   clear H'
   try clear c10
   try clear c12
   try clear c17
   try clear c23
   try clear c23b0
   try clear c23b1
   try clear c24
   try clear c24b0
   try clear c24b1
   try clear c48
   try clear hcz21_0
   try clear hcz21_1
   try clear hcz28_0
   try clear hcz28_1
   try clear hcz31_0
   try clear hcz31_1
   try clear hcz33_0
   try clear hcz33_1
   try clear hcz37_0
   try clear hcz37_1
   try clear hcz40_0
   try clear hcz40_1
   try clear hcz44_0
   try clear hcz44_1
   try clear hcz47_0
   try clear hcz47_1
   try clear hcz52_0
   try clear hcz52_1
   try clear hcz57_0
   try clear hcz57_1
   try clear hfz21_0
   try clear hfz21_1
   try clear hfz28_0
   try clear hfz28_1
   try clear hfz31_0
   try clear hfz31_1
   try clear hfz33_0
   try clear hfz33_1
   try clear hfz37_0
   try clear hfz37_1
   try clear hfz40_0
   try clear hfz40_1
   try clear hfz44_0
   try clear hfz44_1
   try clear hfz47_0
   try clear hfz47_1
   try clear hfz52_0
   try clear hfz52_1
   try clear hfz57_0
   try clear hfz57_1
   obtain ⟨x8_3, x9_3, rfl, HA, HK3, HO_8, BK786, BK787, BK788, BK789, HB⟩ := hrel
   cases gk with
   | zero => exact absurd HA.out (by simp [spec_SendThrough.l0])
   | succ k3 =>
    have H := HA.out
    clear HA
    simp only [spec_SendThrough.l0] at H
    by_cases c59 : x9_3 < (l1_1.length : Int)
    rotate_left
    ·rw [if_neg c59] at H
     have c59b0 := decide_eq_false c59
     clear c59
     obtain ⟨t804, A87, H⟩ := qBd H
     simp only [Option.some.injEq, Prod.mk.injEq] at H
     obtain ⟨rfl, rfl, rfl⟩ := H
     have hnb88 := NB787_786.out
     have hnc88 := NB786_787.out
     have hnb89 := NB787_788.out
     have hnc89 := NB788_787.out
     have hnb90 := NB787_789.out
     have hnc90 := NB789_787.out
     have hcz91_0 : wr.cell? ⟨gb787, 0, none⟩ = some (.int .i64 a1_0) := (kQC BK787.out 0).trans rfl
     have hcz91_1 : wr.cell? ⟨gb787, 1, none⟩ = some (.slice A1_1 l1_1.length c1_1) := (kQC BK787.out 1).trans rfl
     have hfz91_0 := kQF BK787.out 0
     have hfz91_1 := kQF BK787.out 1
     try go_wp2
     have n0_ := Aq.mk (Kd.RqD HO_8.out)
     have n1_ := Aq.mk (kQD BK786.out)
     have n2_ := Aq.mk (kQD BK787.out)
     have n3_ := Aq.mk (kQD BK788.out)
     have n4_ := Aq.mk (kQD BK789.out)
     have n5_ := Aq.mk (bQ1 HB.out)
     clear HO_8
     clear BK786
     clear BK787
     clear BK788
     clear BK789
     clear HB
     have HO_8 := n0_
     have BK786 := n1_
     have BK787 := n2_
     have BK788 := n3_
     have BK789 := n4_
     have HB := n5_
     clear n0_ n1_ n2_ n3_ n4_ n5_
     obtain ⟨Ao93, co93, eo93⟩ := Kd.R_slice HO_8.out
     (first | subst eo93 | (injection eo93 with f1_ f2_ f3_; have f4_ := f1_.symm; have f5_ := f3_.symm; clear f1_ f2_ f3_; subst f4_; subst f5_))
     refine start_ (n := 9) (S := fun w' => w'.cell? ⟨gb786, 0, none⟩ = some (.int .i64 a0_0) ∧ w'.cell? ⟨gb786, 1, none⟩ = some (.slice A0_1 l0_1.length c0_1)) (ds := []) #[false, false, false, false, false, false, false, false, false] (by kernel_rfl) rfl rfl ⟨(kQC BK786.out 0).trans rfl, (kQC BK786.out 1).trans rfl⟩ (fun hHeld => ?_); refine with_tabW spec_SendThrough.tab10 spec_SendThrough.bits10 (fun HT_ HW_ => ?_)
     generalize wr.drew = w92 at HO_8 BK786 BK787 BK788 BK789 HB hHeld ⊢
     refine tP0 0 68 (bm 9 1) ?_
     refine tP0 2 70 (bm 9 5) ?_
     refine tP0 4 72 (bm 9 21) ?_
     refine tT2 1 69 (bm 9 23) ?_
     refine tT2 3 71 (bm 9 31) ?_
     refine one_ (i := 5) (N := some 73) (bm 9 63) rfl rfl (one_of HT_.out (by kernel_rfl)) (by decide) (fun K hK => ?_)
     refine goes_ Try.func56 (by kernel_rfl) rfl #[.int .i64 a0_0, .slice Ao93 x8_3.length co93] (by rfl) rfl rfl tL ?_
     with_reducible refine (spec_l02Echelon.calls k3 a0_0 _ _ x8_3 t804 _ ?s1 ?s2 A87.out).mono ?_
     (case s1 => exact tC ((Kd.R_reads' HO_8.out).2.2))
     (case s2 => exact (Kd.R_reads' HO_8.out).2.1)
     rintro e w94 ⟨v805, rfl, ho0, hb⟩
     refine ⟨_, rfl, ?_⟩
     have n0_ := Aq.mk (Kd.R_elder' (tR HO_8.out) (Kd.R_base ho0) hb)
     have n1_ := Aq.mk (Kd.R_lower (Kd.R_new' ho0 (Kd.R_lt (tR HO_8.out))) (bQZ tB))
     have n2_ := Aq.mk (tQ BK786.out hb)
     have n3_ := Aq.mk (tQ BK787.out hb)
     have n4_ := Aq.mk (tQ BK788.out hb)
     have n5_ := Aq.mk (tQ BK789.out hb)
     have n6_ := Aq.mk (bQT tB hb)
     clear HO_8
     clear BK786
     clear BK787
     clear BK788
     clear BK789
     clear HB
     have HO_8 := n0_
     have HO806 := n1_
     have BK786 := n2_
     have BK787 := n3_
     have BK788 := n4_
     have BK789 := n5_
     have HB := n6_
     clear n0_ n1_ n2_ n3_ n4_ n5_ n6_
     (try clear hb)
     (try clear hb2)
     (try clear hk)
     (try clear hi)
     (try clear ho0)
     obtain ⟨Ao95, co95, eo95⟩ := Kd.R_slice HO806.out
     (first | subst eo95 | (injection eo95 with f1_ f2_ f3_; have f4_ := f1_.symm; have f5_ := f3_.symm; clear f1_ f2_ f3_; subst f4_; subst f5_))
     refine hK.out _ _ ⟨(kQC BK786.out 0).trans rfl, (kQC BK786.out 1).trans rfl⟩ (fun hHeld => ?_)
     clear hK K
     refine tN 73 ?_
     refine tP0 6 74 (bm 9 127) ?_
     refine one_ (i := 7) (N := none) #[true, true, true, true, true, true, true, true, false] rfl rfl (one_of HT_.out (by kernel_rfl)) (by decide) (fun K hK => ?_)
     have hs96 : w94.cell? ⟨gb789, 0, none⟩ = some (.int .i64 0) := (kQC BK789.out 0).trans rfl
     have hfs96 := kQF BK789.out 0
     have hns96_0 := NB786_789.out
     have hns96_1 := NB787_789.out
     have hns96_2 := NB788_789.out
     have hms96_0 := NB789_786.out
     have hms96_1 := NB789_787.out
     have hms96_2 := NB789_788.out
     have hs97 : w94.cell? ⟨gb789, 1, none⟩ = some (.slice none 0 0) := (kQC BK789.out 1).trans rfl
     have hfs97 := kQF BK789.out 1
     have hns97_0 := NB786_789.out
     have hns97_1 := NB787_789.out
     have hns97_2 := NB788_789.out
     have hms97_0 := NB789_786.out
     have hms97_1 := NB789_787.out
     have hms97_2 := NB789_788.out
     refine skip_ (w1 := ?_) (by rfl) rfl ?_ ?_
     rotate_left
     ·go_simp
      rfl
     refine hK.out _ _ ⟨((cell_far (p := ⟨gb789, _, none⟩) NB786_789.out _).trans (((cell_far (p := ⟨gb789, _, none⟩) NB786_789.out _).trans (hHeld.1)))), ((cell_far (p := ⟨gb789, _, none⟩) NB786_789.out _).trans (((cell_far (p := ⟨gb789, _, none⟩) NB786_789.out _).trans (hHeld.2))))⟩ (fun hHeld => ?_)
     clear hK K
     refine tP0 8 7 (bm 9 511) ?_
     refine done_ (done_of HT_.out (by kernel_rfl)) ?_
     try go_wp2
     refine bodyPost_ret (results_ct rfl _ _ gb789 27 #[.int .i64 a0_0, .slice Ao95 t804.length co95] (0, 0) _ rfl (by (with_reducible repeat (first | refine kQN ?_ _ | refine kQD ?_ | refine kQA ?_ _)); refine kQP (cs := #[.int .i64 a0_0, .slice none 0 0]) ?_ 1 _ rfl; (with_reducible repeat (first | refine kQN ?_ _ | refine kQD ?_ | refine kQA ?_ _)); refine kQP (cs := #[.int .i64 0, .slice none 0 0]) ?_ 0 _ rfl; (with_reducible repeat (first | refine kQN ?_ _ | refine kQD ?_ | refine kQA ?_ _)); exact BK789.out) Try.underlying27 rfl (by kernel_rfl)) rfl ?_
     exact ⟨_, tE, by (with_reducible repeat (first | apply Kd.RqA | apply Kd.RqN | apply Kd.RqD)); exact Kd.R_mono (Kd.R_far (p := ⟨gb789, 1, none⟩) (Kd.R_far (p := ⟨gb789, 0, none⟩) (Kd.R_types HO806.out BK789.out (by decide)) (fun _ hk => hk.2) (.int .i64 a0_0)) (fun _ hk => hk.2) (.slice Ao95 t804.length co95)) (fun _ hk => trivial), tB⟩
    rw [if_pos c59] at H
    have c59b0 := decide_eq_true c59
    clear c59
    by_cases c60 : (l0_1.length : Int) > 0
    rotate_left
    ·rw [if_neg c60] at H
     have c60b0 := decide_eq_false c60
     have c60b1 : decide (0 < l0_1.length) = false := decide_eq_false (by omega)
     clear c60
     obtain ⟨t801, A73, H⟩ := qBd H
     simp only [Option.some.injEq, Prod.mk.injEq] at H
     obtain ⟨rfl, rfl, rfl⟩ := H
     have hnb74 := NB787_786.out
     have hnc74 := NB786_787.out
     have hnb75 := NB787_788.out
     have hnc75 := NB788_787.out
     have hnb76 := NB787_789.out
     have hnc76 := NB789_787.out
     have hcz77_0 : wr.cell? ⟨gb787, 0, none⟩ = some (.int .i64 a1_0) := (kQC BK787.out 0).trans rfl
     have hcz77_1 : wr.cell? ⟨gb787, 1, none⟩ = some (.slice A1_1 l1_1.length c1_1) := (kQC BK787.out 1).trans rfl
     have hfz77_0 := kQF BK787.out 0
     have hfz77_1 := kQF BK787.out 1
     have hnb78 := NB786_788.out
     have hnc78 := NB788_786.out
     have hnb79 := NB786_789.out
     have hnc79 := NB789_786.out
     have hcz80_0 : wr.cell? ⟨gb786, 0, none⟩ = some (.int .i64 a0_0) := (kQC BK786.out 0).trans rfl
     have hcz80_1 : wr.cell? ⟨gb786, 1, none⟩ = some (.slice A0_1 l0_1.length c0_1) := (kQC BK786.out 1).trans rfl
     have hfz80_0 := kQF BK786.out 0
     have hfz80_1 := kQF BK786.out 1
     try go_wp2
     have n0_ := Aq.mk (Kd.RqD HO_8.out)
     have n1_ := Aq.mk (kQD BK786.out)
     have n2_ := Aq.mk (kQD BK787.out)
     have n3_ := Aq.mk (kQD BK788.out)
     have n4_ := Aq.mk (kQD BK789.out)
     have n5_ := Aq.mk (bQ1 HB.out)
     clear HO_8
     clear BK786
     clear BK787
     clear BK788
     clear BK789
     clear HB
     have HO_8 := n0_
     have BK786 := n1_
     have BK787 := n2_
     have BK788 := n3_
     have BK789 := n4_
     have HB := n5_
     clear n0_ n1_ n2_ n3_ n4_ n5_
     obtain ⟨Ao82, co82, eo82⟩ := Kd.R_slice HO_8.out
     (first | subst eo82 | (injection eo82 with f1_ f2_ f3_; have f4_ := f1_.symm; have f5_ := f3_.symm; clear f1_ f2_ f3_; subst f4_; subst f5_))
     refine start_ (n := 9) (S := fun w' => w'.cell? ⟨gb786, 0, none⟩ = some (.int .i64 a0_0) ∧ w'.cell? ⟨gb786, 1, none⟩ = some (.slice A0_1 l0_1.length c0_1)) (ds := []) #[false, false, false, false, false, false, false, false, false] (by kernel_rfl) rfl rfl ⟨(kQC BK786.out 0).trans rfl, (kQC BK786.out 1).trans rfl⟩ (fun hHeld => ?_); refine with_tabW spec_SendThrough.tab10 spec_SendThrough.bits10 (fun HT_ HW_ => ?_)
     generalize wr.drew = w81 at HO_8 BK786 BK787 BK788 BK789 HB hHeld ⊢
     refine tP0 0 68 (bm 9 1) ?_
     refine tP0 2 70 (bm 9 5) ?_
     refine tP0 4 72 (bm 9 21) ?_
     refine tT2 1 69 (bm 9 23) ?_
     refine tT2 3 71 (bm 9 31) ?_
     refine one_ (i := 5) (N := some 73) (bm 9 63) rfl rfl (one_of HT_.out (by kernel_rfl)) (by decide) (fun K hK => ?_)
     refine goes_ Try.func56 (by kernel_rfl) rfl #[.int .i64 a0_0, .slice Ao82 x8_3.length co82] (by rfl) rfl rfl tL ?_
     with_reducible refine (spec_l02Echelon.calls k3 a0_0 _ _ x8_3 t801 _ ?s1 ?s2 A73.out).mono ?_
     (case s1 => exact tC ((Kd.R_reads' HO_8.out).2.2))
     (case s2 => exact (Kd.R_reads' HO_8.out).2.1)
     rintro e w83 ⟨v802, rfl, ho0, hb⟩
     refine ⟨_, rfl, ?_⟩
     have n0_ := Aq.mk (Kd.R_elder' (tR HO_8.out) (Kd.R_base ho0) hb)
     have n1_ := Aq.mk (Kd.R_lower (Kd.R_new' ho0 (Kd.R_lt (tR HO_8.out))) (bQZ tB))
     have n2_ := Aq.mk (tQ BK786.out hb)
     have n3_ := Aq.mk (tQ BK787.out hb)
     have n4_ := Aq.mk (tQ BK788.out hb)
     have n5_ := Aq.mk (tQ BK789.out hb)
     have n6_ := Aq.mk (bQT tB hb)
     clear HO_8
     clear BK786
     clear BK787
     clear BK788
     clear BK789
     clear HB
     have HO_8 := n0_
     have HO803 := n1_
     have BK786 := n2_
     have BK787 := n3_
     have BK788 := n4_
     have BK789 := n5_
     have HB := n6_
     clear n0_ n1_ n2_ n3_ n4_ n5_ n6_
     (try clear hb)
     (try clear hb2)
     (try clear hk)
     (try clear hi)
     (try clear ho0)
     obtain ⟨Ao84, co84, eo84⟩ := Kd.R_slice HO803.out
     (first | subst eo84 | (injection eo84 with f1_ f2_ f3_; have f4_ := f1_.symm; have f5_ := f3_.symm; clear f1_ f2_ f3_; subst f4_; subst f5_))
     refine hK.out _ _ ⟨(kQC BK786.out 0).trans rfl, (kQC BK786.out 1).trans rfl⟩ (fun hHeld => ?_)
     clear hK K
     refine tN 73 ?_
     refine tP0 6 74 (bm 9 127) ?_
     refine one_ (i := 7) (N := none) #[true, true, true, true, true, true, true, true, false] rfl rfl (one_of HT_.out (by kernel_rfl)) (by decide) (fun K hK => ?_)
     have hs85 : w83.cell? ⟨gb789, 0, none⟩ = some (.int .i64 0) := (kQC BK789.out 0).trans rfl
     have hfs85 := kQF BK789.out 0
     have hns85_0 := NB786_789.out
     have hns85_1 := NB787_789.out
     have hns85_2 := NB788_789.out
     have hms85_0 := NB789_786.out
     have hms85_1 := NB789_787.out
     have hms85_2 := NB789_788.out
     have hs86 : w83.cell? ⟨gb789, 1, none⟩ = some (.slice none 0 0) := (kQC BK789.out 1).trans rfl
     have hfs86 := kQF BK789.out 1
     have hns86_0 := NB786_789.out
     have hns86_1 := NB787_789.out
     have hns86_2 := NB788_789.out
     have hms86_0 := NB789_786.out
     have hms86_1 := NB789_787.out
     have hms86_2 := NB789_788.out
     refine skip_ (w1 := ?_) (by rfl) rfl ?_ ?_
     rotate_left
     ·go_simp
      rfl
     refine hK.out _ _ ⟨((cell_far (p := ⟨gb789, _, none⟩) NB786_789.out _).trans (((cell_far (p := ⟨gb789, _, none⟩) NB786_789.out _).trans (hHeld.1)))), ((cell_far (p := ⟨gb789, _, none⟩) NB786_789.out _).trans (((cell_far (p := ⟨gb789, _, none⟩) NB786_789.out _).trans (hHeld.2))))⟩ (fun hHeld => ?_)
     clear hK K
     refine tP0 8 7 (bm 9 511) ?_
     refine done_ (done_of HT_.out (by kernel_rfl)) ?_
     try go_wp2
     refine bodyPost_ret (results_ct rfl _ _ gb789 27 #[.int .i64 a0_0, .slice Ao84 t801.length co84] (0, 0) _ rfl (by (with_reducible repeat (first | refine kQN ?_ _ | refine kQD ?_ | refine kQA ?_ _)); refine kQP (cs := #[.int .i64 a0_0, .slice none 0 0]) ?_ 1 _ rfl; (with_reducible repeat (first | refine kQN ?_ _ | refine kQD ?_ | refine kQA ?_ _)); refine kQP (cs := #[.int .i64 0, .slice none 0 0]) ?_ 0 _ rfl; (with_reducible repeat (first | refine kQN ?_ _ | refine kQD ?_ | refine kQA ?_ _)); exact BK789.out) Try.underlying27 rfl (by kernel_rfl)) rfl ?_
     exact ⟨_, tE, by (with_reducible repeat (first | apply Kd.RqA | apply Kd.RqN | apply Kd.RqD)); exact Kd.R_mono (Kd.R_far (p := ⟨gb789, 1, none⟩) (Kd.R_far (p := ⟨gb789, 0, none⟩) (Kd.R_types HO803.out BK789.out (by decide)) (fun _ hk => hk.2) (.int .i64 a0_0)) (fun _ hk => hk.2) (.slice Ao84 t801.length co84)) (fun _ hk => trivial), tB⟩
    rw [if_pos c60] at H
    have c60b0 := decide_eq_true c60
    have c60b1 : decide (0 < l0_1.length) = true := decide_eq_true (by omega)
    clear c60
    by_cases c61 : 0 ≤ x9_3
    rotate_left
    ·rw [if_neg c61] at H
     exact absurd H (by simp)
    rw [if_pos c61] at H
    have c61b0 := decide_eq_true c61
    clear c61
    obtain ⟨t797, A62, H⟩ := qBd H
    by_cases c63 : x8_3.length < 17592186044416
    rotate_left
    ·rw [if_neg c63] at H
     exact absurd H (by simp)
    rw [if_pos c63] at H
    have LMc63 := Aq.mk c63
    clear c63
    obtain ⟨y798, hy798⟩ : ∃ y_ : List Int, y_ = (x8_3 ++ [t797]) := ⟨_, rfl⟩
    replace H : (spec_SendThrough.l0 k3 y798 (wrap64 (x9_3 + 1)) a0_0 l0_1 a1_0 l1_1) = some (r1, r2, r3) := by first | (rw [hy798]; with_reducible exact H) | (have H2_ := (Option.bind_some _ _).symm.trans H; rw [hy798]; with_reducible exact H2_) | (have H2_ := (Option.bind_some _ _).symm.trans H; with_reducible exact H2_) | with_reducible exact H | (rw [hy798]; exact H) | exact H
    have Ny798 := Aq.mk hy798
    clear hy798
    replace H' := Aq.mk H
    clear H
    have hnb64 := NB787_786.out
    have hnc64 := NB786_787.out
    have hnb65 := NB787_788.out
    have hnc65 := NB788_787.out
    have hnb66 := NB787_789.out
    have hnc66 := NB789_787.out
    have hcz67_0 : wr.cell? ⟨gb787, 0, none⟩ = some (.int .i64 a1_0) := (kQC BK787.out 0).trans rfl
    have hcz67_1 : wr.cell? ⟨gb787, 1, none⟩ = some (.slice A1_1 l1_1.length c1_1) := (kQC BK787.out 1).trans rfl
    have hfz67_0 := kQF BK787.out 0
    have hfz67_1 := kQF BK787.out 1
    have hnb68 := NB786_788.out
    have hnc68 := NB788_786.out
    have hnb69 := NB786_789.out
    have hnc69 := NB789_786.out
    have hcz70_0 : wr.cell? ⟨gb786, 0, none⟩ = some (.int .i64 a0_0) := (kQC BK786.out 0).trans rfl
    have hcz70_1 : wr.cell? ⟨gb786, 1, none⟩ = some (.slice A0_1 l0_1.length c0_1) := (kQC BK786.out 1).trans rfl
    have hfz70_0 := kQF BK786.out 0
    have hfz70_1 := kQF BK786.out 1
    try go_wp2
    have n0_ := Aq.mk (Kd.RqD HO_8.out)
    have n1_ := Aq.mk (kQD BK786.out)
    have n2_ := Aq.mk (kQD BK787.out)
    have n3_ := Aq.mk (kQD BK788.out)
    have n4_ := Aq.mk (kQD BK789.out)
    have n5_ := Aq.mk (bQ1 HB.out)
    clear HO_8
    clear BK786
    clear BK787
    clear BK788
    clear BK789
    clear HB
    have HO_8 := n0_
    have BK786 := n1_
    have BK787 := n2_
    have BK788 := n3_
    have BK789 := n4_
    have HB := n5_
    clear n0_ n1_ n2_ n3_ n4_ n5_
    have p796 : 0 ≤ (x9_3 : Int) := of_decide_eq_true tA
    have q796 : x9_3 < (l1_1.length : Int) := of_decide_eq_true tA
    obtain ⟨ad796, e796, hx796_0⟩ := Kd.at_int HR1_1.out x9_3 p796 q796
    have hw796_0 := hx796_0
    cases e796
    replace hx796_0 := (HB.out.cell (World.block_lt_of_cell? w _ hx796_0)).trans hx796_0
    replace p796 := eq_true p796
    replace q796 := eq_true q796
    refine start_ (n := 12) (S := fun w' => w'.cell? ⟨gb787, 0, none⟩ = some (.int .i64 a1_0) ∧ w'.cell? ⟨gb787, 1, none⟩ = some (.slice (some ad796) l1_1.length c1_1) ∧ w'.cell? ⟨gb786, 0, none⟩ = some (.int .i64 a0_0) ∧ w'.cell? ⟨gb786, 1, none⟩ = some (.slice A0_1 l0_1.length c0_1) ∧ w'.cell? (ad796.add (x9_3).toNat) = some (.int .i64 (rd l1_1 x9_3))) (ds := []) #[false, false, false, false, false, false, false, false, false, false, false, false] (by kernel_rfl) rfl rfl ⟨(kQC BK787.out 0).trans rfl, (kQC BK787.out 1).trans rfl, (kQC BK786.out 0).trans rfl, (kQC BK786.out 1).trans rfl, (tcw tB hw796_0)⟩ (fun hHeld => ?_); refine with_tabW spec_SendThrough.tab9 spec_SendThrough.bits9 (fun HT_ HW_ => ?_)
    generalize wr.drew = w71 at HO_8 BK786 BK787 BK788 BK789 HB hx796_0 hHeld ⊢
    refine tP0 0 57 (bm 12 1) ?_
    refine tP0 1 58 (bm 12 3) ?_
    refine tP0 3 60 (bm 12 11) ?_
    refine tP0 6 63 (bm 12 75) ?_
    refine tT5 2 59 (bm 12 79) ?_
    refine tP0 4 61 (bm 12 95) ?_
    refine tT5 5 62 (bm 12 127) ?_
    refine tT5 7 64 (bm 12 255) ?_
    refine one_ (i := 8) (N := some 65) (bm 12 511) rfl rfl (one_of HT_.out (by kernel_rfl)) (by decide) (fun K hK => ?_)
    refine goes_ Try.func77 (by kernel_rfl) rfl #[.int .i64 (rd l1_1 x9_3), .slice A0_1 l0_1.length c0_1] (by rfl) rfl rfl tL ?_
    with_reducible refine (spec_l02Times.calls k3 (rd l1_1 x9_3) _ _ l0_1 t797 _ ?s1 ?s2 A62.out).mono ?_
    (case s1 => exact tC ((Kd.C_below HR0_1.out HB.out)))
    (case s2 => exact HC0_1.out)
    rintro e w' ⟨rfl, ⟨nd, rfl⟩⟩
    refine ⟨_, rfl, ?_⟩
    refine hK.out _ _ ⟨(kQC BK787.out 0).trans rfl, (kQC BK787.out 1).trans rfl, (kQC BK786.out 0).trans rfl, (kQC BK786.out 1).trans rfl, (tcw tB hw796_0)⟩ (fun hHeld => ?_)
    clear hK K
    refine tN 65 ?_
    refine one_ (i := 9) (N := some 66) (bm 12 1023) rfl rfl (one_of HT_.out (by kernel_rfl)) (by decide) (fun K hK => ?_)
    refine value_ (w1 := ?_) (v := ?_) (by rfl) rfl ?_ ?_
    rotate_left 2
    ·go_simp
     constructor
     ·rfl
     rfl
    refine hK.out _ _ ⟨(kQC (kQA BK787.out _) 0).trans rfl, (kQC (kQA BK787.out _) 1).trans rfl, (kQC (kQA BK786.out _) 0).trans rfl, (kQC (kQA BK786.out _) 1).trans rfl, (World.cell?_alloc_lt _ _ _ (World.block_lt_of_cell? _ _ ((tcw tB hw796_0)))).trans ((tcw tB hw796_0))⟩ (fun hHeld => ?_)
    clear hK K
    refine tN 66 ?_
    refine one_ (i := 10) (N := some 67) (bm 12 2047) rfl rfl (one_of HT_.out (by kernel_rfl)) (by decide) (fun K hK => ?_)
    refine Kd.R_append_step (Kd.int .i64) (w0 := w) w.heap.size (by rfl) (.tmp 57) (.tmp 66) 25 2 (.int .i64 0) 8 rfl Try.underlying25 info2 rfl (by decide) (by omega) u8 x8_3 t797 [.int .i64 t797] (fun _ => True) (fun _ => False) rfl rfl ?aP (fun _ hk => hk.elim) ?aF ?aO ?aB ?aS ?aL ?_
    (case aP => exact rfl)
    (case aB => exact tB)
    (case aF => exact (fun _ _ => trivial))
    (case aO => exact (tR HO_8.out))
    (case aS => exact (bQZ tB))
    (case aL => have := LMc63.out; omega)
    intro v799 w72 ho hb hg hat
    rw [← Ny798.out] at ho
    have n0_ := Aq.mk (blk_grown (g := gb786) (o := .cells #[.int .i64 a0_0, .slice A0_1 l0_1.length c0_1] 27 (0, 0)) (tG BK786.out) hg (Kd.R_ne HO_8.out BK786.out (by decide)))
    have n1_ := Aq.mk (blk_grown (g := gb787) (o := .cells #[.int .i64 a1_0, .slice (some ad796) l1_1.length c1_1] 27 (0, 0)) (tG BK787.out) hg (Kd.R_ne HO_8.out BK787.out (by decide)))
    have n2_ := Aq.mk (blk_grown (g := gb788) (o := .cells #[.int .i64 a2_0, .slice A2_1 l2_1.length c2_1] 27 (0, 0)) (tG BK788.out) hg (Kd.R_ne HO_8.out BK788.out (by decide)))
    have n3_ := Aq.mk (blk_grown (g := gb789) (o := .cells #[.int .i64 0, .slice none 0 0] 27 (0, 0)) (tG BK789.out) hg (Kd.R_ne HO_8.out BK789.out (by decide)))
    have n4_ := Aq.mk (hb)
    have n5_ := Aq.mk (ho)
    clear BK786
    clear BK787
    clear BK788
    clear BK789
    clear HB
    clear HO_8
    have BK786 := n0_
    have BK787 := n1_
    have BK788 := n2_
    have BK789 := n3_
    have HB := n4_
    have HO800 := n5_
    clear n0_ n1_ n2_ n3_ n4_ n5_
    clear ho hb hg hat
    refine hK.out _ _ ⟨(kQC BK787.out 0).trans rfl, (kQC BK787.out 1).trans rfl, (kQC BK786.out 0).trans rfl, (kQC BK786.out 1).trans rfl, (tcw tB hw796_0)⟩ (fun hHeld => ?_)
    clear hK K
    refine tN 67 ?_
    refine tP0 11 8 (bm 12 4095) ?_
    refine done_ (done_of HT_.out (by kernel_rfl)) ?_
    try go_wp2
    go_roundg k3
    case measure => have := HJ3.out; have := HJ21.out; have := HK3.out; omega
    case rel => exact ⟨(y798), (wrap64 (x9_3 + 1)), tS, H', ⟨by have := HJ3.out; have := HJ21.out; have := HK3.out; omega⟩, ⟨tR HO800.out⟩, ⟨tG BK786.out⟩, ⟨tG BK787.out⟩, ⟨tG BK788.out⟩, ⟨tG BK789.out⟩, ⟨tB⟩⟩
end Go.Proofs.Ythjfilmdobkmlaa.P
