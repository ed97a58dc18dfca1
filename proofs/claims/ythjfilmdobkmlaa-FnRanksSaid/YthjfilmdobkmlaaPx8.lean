/- Functions of the program and what they tell, as the printing program wrote it. -/
import Derived.Test.YthjfilmdobkmlaaPx0
import Derived.Test.YthjfilmdobkmlaaPx7
namespace Go.Proofs.Ythjfilmdobkmlaa.P
open Go.Shelf Go.RowKit Go.Proofs.YthjfilmdobkmlaaW.PrintWords Go.Proofs.YthjfilmdobkmlaaW.PrintLast Go.Proofs.YthjfilmdobkmlaaW.PrintMore
attribute [local go_sem] max2_int min2_int max_two min_two max_three min_three max_four min_four
set_option linter.unusedVariables false
set_option linter.unusedSimpArgs false
set_option maxHeartbeats 8000000
set_option maxRecDepth 100000
mutual
def spec_l02Drawn.l0 : Nat → Int → Int → List Int → Int → Int → Int → List Int → Option (Int × List Int × Int × Int)
  | 0, _, _, _, _, _, _, _ => none
  | k + 1, x1, x8, x1000, x1001, x1002, x114000, x114001 => if x8 > 0 then (if 0 ≤ (IntKind.u64.wrap (x1)) then ((spec_l00Src_pick.f x1000 x1001 x1002 (shl .i64 1 (IntKind.u64.wrap (x1)))).bind fun bt117 => ((spec_l00Src_one.f x1000 bt117.2.1 bt117.2.2 3).bind fun bt120 => (if bt120.1 = true then (spec_l02Drawn.j1 k x1 x8 bt117.1 (decide ((x114001.length : Int) > 0)) x1000 bt120.2.1 bt120.2.2 x114000 x114001) else (spec_l02Drawn.j1 k x1 x8 bt117.1 false x1000 bt120.2.1 bt120.2.2 x114000 x114001)))) else (none)) else (some (x114000, x114001, x1001, x1002))
def spec_l02Drawn.j1 : Nat → Int → Int → Int → Bool → List Int → Int → Int → Int → List Int → Option (Int × List Int × Int × Int)
  | 0, _, _, _, _, _, _, _, _, _ => none
  | k + 1, x1, x8, x9, x32, x1000, x1001, x1002, x114000, x114001 => if x32 = true then ((spec_l00Src_pick.f x1000 x1001 x1002 (x114001.length : Int)).bind fun bt123 => (if 0 ≤ bt123.1 then (if bt123.1 < (x114001.length : Int) then ((spec_l00Src_one.f x1000 bt123.2.1 bt123.2.2 2).bind fun bt127 => (if bt127.1 = true then ((spec_l00Src_pick.f x1000 bt127.2.1 bt127.2.2 (x114001.length : Int)).bind fun bt130 => (if 0 ≤ bt130.1 then (if bt130.1 < (x114001.length : Int) then (if x114001.length < 17592186044416 then (spec_l02Drawn.l0 k x1 (wrap64 (x8 - 1)) x1000 bt130.2.1 bt130.2.2 x114000 (x114001 ++ [Go.bits .xor .i64 (rd x114001 bt123.1) (rd x114001 bt130.1)])) else (none)) else (none)) else (none))) else (if x114001.length < 17592186044416 then (spec_l02Drawn.l0 k x1 (wrap64 (x8 - 1)) x1000 bt127.2.1 bt127.2.2 x114000 (x114001 ++ [rd x114001 bt123.1])) else (none)))) else (none)) else (none))) else (if x114001.length < 17592186044416 then (spec_l02Drawn.l0 k x1 (wrap64 (x8 - 1)) x1000 x1001 x1002 x114000 (x114001 ++ [x9])) else (none))
end
def spec_l02Drawn.f (k : Nat) (s0_0 : List Int) (s0_1 : Int) (s0_2 : Int) (a1 : Int) (a2 : Int) : Option (Int × List Int × Int × Int) := (spec_l00Src_pick.f s0_0 s0_1 s0_2 (wrap64 (a2 + 1))).bind fun bt114 => (spec_l02Drawn.l0 k a1 bt114.1 s0_0 bt114.2.1 bt114.2.2 a1 ([] : List Int))
theorem spec_l02Drawn.mono_l : ∀ k, (∀ y0 y1 y2 y3 y4 y5 y6, LeO (spec_l02Drawn.l0 k y0 y1 y2 y3 y4 y5 y6) (spec_l02Drawn.l0 (k + 1) y0 y1 y2 y3 y4 y5 y6)) ∧ (∀ y0 y1 y2 y3 y4 y5 y6 y7 y8, LeO (spec_l02Drawn.j1 k y0 y1 y2 y3 y4 y5 y6 y7 y8) (spec_l02Drawn.j1 (k + 1) y0 y1 y2 y3 y4 y5 y6 y7 y8))
 | 0 => ⟨fun _ _ _ _ _ _ _ r h => by simp [spec_l02Drawn.l0] at h, fun _ _ _ _ _ _ _ _ _ r h => by simp [spec_l02Drawn.j1] at h⟩
 | k + 1 => by
  obtain ⟨ih0, ih1⟩ := spec_l02Drawn.mono_l k
  refine ⟨?_, ?_⟩ <;> intros <;> first | unfold spec_l02Drawn.l0 | unfold spec_l02Drawn.j1
  all_goals repeat' first
   | (with_reducible first | apply ih0 | apply ih1 | exact LeO.refl _ | exact LeO.none _ | refine LeO.ite ?_ ?_ | refine LeO.bind ?_ (fun _ => ?_))
   | exact LeO.none _
   | refine LeO.ite ?_ ?_
   | refine LeO.bind ?_ (fun _ => ?_)
theorem spec_l02Drawn.mono : ∀ a0 a1 a2 a3 a4 k, LeO (spec_l02Drawn.f k a0 a1 a2 a3 a4) (spec_l02Drawn.f (k + 1) a0 a1 a2 a3 a4) := by
 intro a0 a1 a2 a3 a4 k
 obtain ⟨ih0, ih1⟩ := spec_l02Drawn.mono_l k
 unfold spec_l02Drawn.f
 repeat' first
  | (with_reducible first | apply ih0 | apply ih1 | exact LeO.refl _ | exact LeO.none _ | refine LeO.ite ?_ ?_ | refine LeO.bind ?_ (fun _ => ?_))
  | exact LeO.none _
  | refine LeO.ite ?_ ?_
  | refine LeO.bind ?_ (fun _ => ?_)
def spec_l02Drawn.T7 : Bool × List (List Nat × List Nat) := (true, [([], []), ([0], [0]), ([], []), ([], []), ([3], [3]), ([4], [4]), ([2, 5], [2, 5]), ([1, 6], [1, 6]), ([7], [7]), ([8, 6, 0, 1, 2, 3, 4, 5, 6, 7, 8], [8])])
def spec_l02Drawn.B7 : List Nat := [0, 1, 0, 0, 8, 24, 60, 127, 255, 511]
theorem spec_l02Drawn.tab7 : rtab .any (opsOf Try.f38 7) = spec_l02Drawn.T7 := by kernel_rfl
theorem spec_l02Drawn.bits7 : waitsOk spec_l02Drawn.T7.2 spec_l02Drawn.B7 = true := by kernel_rfl
def spec_l02Drawn.T9 : Bool × List (List Nat × List Nat) := (true, [([], []), ([], []), ([1], [1]), ([], []), ([], []), ([4], [4]), ([5], [5]), ([3, 6], [3, 6]), ([2, 7], [2, 7]), ([8], [8]), ([0, 9], [0, 9]), ([10, 7, 0, 1, 2, 3, 4, 5, 6, 7, 8, 9, 10], [0, 10])])
def spec_l02Drawn.B9 : List Nat := [0, 0, 2, 0, 0, 16, 48, 120, 254, 510, 1023, 2047]
theorem spec_l02Drawn.tab9 : rtab .any (opsOf Try.f38 9) = spec_l02Drawn.T9 := by kernel_rfl
theorem spec_l02Drawn.bits9 : waitsOk spec_l02Drawn.T9.2 spec_l02Drawn.B9 = true := by kernel_rfl
theorem spec_l02Drawn.calls (k : Nat) (g : Nat) (s0_0 : List Int) (s0_1 : Int) (s0_2 : Int) (a1 : Int) (a2 : Int) (r1 : Int) (r2 : List Int) (r3 : Int) (r4 : Int) (w0 w : World) (hI : IsS93 w0 w g s0_0 s0_1 s0_2) (hB : Below w0.heap.size w0 w) (h : spec_l02Drawn.f k s0_0 s0_1 s0_2 a1 a2 = some (r1, r2, r3, r4)) :
 Calls Try.prog 38 #[.pointer (some ⟨g, 0, none⟩), .int .i64 a1, .int .i64 a2] w fun e w' => ∃ v1_ : Value, e = .returned (.agg #[.int .i64 r1, v1_]) ∧ Kd.R (Kd.int .i64) 2 w' w.heap.size (fun _ => True) v1_ r2 ∧ IsS93 w0 w' g s0_0 r3 r4 ∧ Below w0.heap.size w0 w' ∧ KeepBut w w' g none := by
 have hu27 := Try.underlying27
 have HI0 := Aq.mk hI
 have HK := Aq.mk (KeepBut.refl w g none)
 have HL := Aq.mk hB.size
 clear hI
 have HW0 := Aq.mk hB.size
 have HB := Aq.mk hB
 clear hB
 have H : ((spec_l00Src_pick.f s0_0 s0_1 s0_2 (wrap64 (a2 + 1))).bind fun bt114 => (spec_l02Drawn.l0 k a1 bt114.1 s0_0 bt114.2.1 bt114.2.2 a1 ([] : List Int))) = some (r1, r2, r3, r4) := h
 clear h
 obtain ⟨⟨t114, t115, t116⟩, A4, H⟩ := qBd H
 (try dsimp only at H)
 replace H' := Aq.mk H
 clear H
 go_enter Try.func38, Try.ntmps38
 go_wp2_with (first | ((with_reducible refine gQd (N := 6) rfl ?_); (try (refine gate_guard (by rfl) ?_; dsimp only)); refine xQe ?hg (N := 6) ?hd (cs := #[.int .i64 0, .slice none 0 0]) (t := 27) ?hr ?_; (case hd => rfl); (case hg => rfl); (case hr => exact tH); intro gb112 hg w5 hbox hb; refine qM8 (IsS93.below tI hb) (KeepBut.trans tK (KeepBut.of_below hb g none) (.inl rfl)) (bQT tB hb) hbox ((by rw [hg]; exact (keep_size (w := w) (g := g) (row := none) tK) : w.heap.size ≤ gb112)) ((Nat.le_trans HW0.out (by rw [hg]; exact (keep_size (w := w) (g := g) (row := none) tK) : w.heap.size ≤ gb112) : w0.heap.size ≤ gb112)) ((by rw [hg]; exact Nat.ne_of_lt (IsS93.lt (show IsS93 w0 _ g s0_0 s0_1 s0_2 from tI)) : g ≠ gb112)) ((by rw [hg]; exact Nat.ne_of_gt (IsS93.lt (show IsS93 w0 _ g s0_0 s0_1 s0_2 from tI)) : gb112 ≠ g)) ?_; clear HI0 HK HB; intro HI0 HK HB BK112 GW112 GE112 NB0_112 NB112_0; clear hb hbox hg) | ((with_reducible refine gQd (N := 7) rfl ?_); (try (refine gate_guard (by rfl) ?_; dsimp only)); refine xQe ?hg (N := 7) ?hd (cs := #[.int .i64 0, .slice none 0 0]) (t := 27) ?hr ?_; (case hd => rfl); (case hg => rfl); (case hr => exact tH); intro gb113 hg w6 hbox hb; refine qM11 (IsS93.below tI hb) (tQ BK112.out hb) (KeepBut.trans tK (KeepBut.of_below hb g none) (.inl rfl)) (bQT tB hb) hbox ((by rw [hg]; exact (keep_size (w := w) (g := g) (row := none) tK) : w.heap.size ≤ gb113)) ((Nat.le_trans HW0.out (by rw [hg]; exact (keep_size (w := w) (g := g) (row := none) tK) : w.heap.size ≤ gb113) : w0.heap.size ≤ gb113)) ((by rw [hg]; exact Nat.ne_of_lt (blk_lt (g := gb112) (o := .cells #[.int .i64 0, .slice none 0 0] 27 (0, 0)) (tG BK112.out)) : gb112 ≠ gb113)) ((by rw [hg]; exact Nat.ne_of_gt (blk_lt (g := gb112) (o := .cells #[.int .i64 0, .slice none 0 0] 27 (0, 0)) (tG BK112.out)) : gb113 ≠ gb112)) ((by rw [hg]; exact Nat.ne_of_lt (IsS93.lt (show IsS93 w0 _ g s0_0 s0_1 s0_2 from tI)) : g ≠ gb113)) ((by rw [hg]; exact Nat.ne_of_gt (IsS93.lt (show IsS93 w0 _ g s0_0 s0_1 s0_2 from tI)) : gb113 ≠ g)) ?_; clear HI0 BK112 HK HB; intro HI0 BK112 HK HB BK113 GW113 GE113 NB112_113 NB113_112 NB0_113 NB113_0; clear hb hbox hg; have hnb7 := NB113_112.out; have hnc7 := NB112_113.out; have hnb8 := NB113_0.out; have hnc8 := NB0_113.out; have hcz9_0 : w6.cell? ⟨gb113, 0, none⟩ = some (.int .i64 0) := (kQC BK113.out 0).trans rfl; have hcz9_1 : w6.cell? ⟨gb113, 1, none⟩ = some (.slice none 0 0) := (kQC BK113.out 1).trans rfl; have hfz9_0 := kQF BK113.out 0; have hfz9_1 := kQF BK113.out 1) | ((with_reducible refine gQc (f := 82) rfl ?_); refine goesL_ (some 15) rfl rfl Try.func82 (by kernel_rfl) rfl #[.pointer (some ⟨g, 0, none⟩), .int .i64 (wrap64 (a2 + 1))] rfl tL ?_; (with_reducible refine (spec_l00Src_pick.calls g s0_0 s0_1 s0_2 (wrap64 (a2 + 1)) t114 t115 t116 w0 _ ?s1 ?s2 A4.out).mono ?_); (case s1 => exact tI); (case s2 => exact tB); rintro e w10 ⟨rfl, hi, hb, hk⟩; refine ⟨_, rfl, ?_⟩; refine qM5 (KeepBut.blk hk (g' := gb112) (o := .cells #[.int .i64 0, .slice none 0 0] 27 (0, 0)) (by (with_reducible repeat (first | refine kQN ?_ _ | refine kQD ?_ | refine kQA ?_ _)); refine kQR ?_ NB112_113.out _; (with_reducible repeat (first | refine kQN ?_ _ | refine kQD ?_ | refine kQA ?_ _)); refine kQR ?_ NB112_113.out _; (with_reducible repeat (first | refine kQN ?_ _ | refine kQD ?_ | refine kQA ?_ _)); exact BK112.out) NB112_0.out (by simp)) (KeepBut.blk hk (g' := gb113) (o := .cells #[.int .i64 a1, .slice none 0 0] 27 (0, 0)) (by (with_reducible repeat (first | refine kQN ?_ _ | refine kQD ?_ | refine kQA ?_ _)); refine kQP (cs := #[.int .i64 a1, .slice none 0 0]) ?_ 1 _ rfl; (with_reducible repeat (first | refine kQN ?_ _ | refine kQD ?_ | refine kQA ?_ _)); refine kQP (cs := #[.int .i64 0, .slice none 0 0]) ?_ 0 _ rfl; (with_reducible repeat (first | refine kQN ?_ _ | refine kQD ?_ | refine kQA ?_ _)); exact BK113.out) NB113_0.out (by simp)) (KeepBut.trans tK hk (.inl rfl)) hb hi ?_; clear BK112 BK113 HK HB HI0; intro BK112 BK113 HK HB HI0; (try clear hb); (try clear hb2); (try clear hk); (try clear hi)))
 go_loopg [8] k (fun kq v8 w' => ∃ (x8_1 : Int) (x1001_1 : Int) (x1002_1 : Int) (x114001_1 : List Int) (u114001 : Value), v8 = .int .i64 x8_1 ∧ Aq (spec_l02Drawn.l0 kq a1 x8_1 s0_0 x1001_1 x1002_1 a1 x114001_1 = some (r1, r2, r3, r4)) ∧ Aq (kq ≤ k) ∧ Aq (Kd.R (Kd.int .i64) 2 w' w.heap.size (fun _ => True) u114001 x114001_1) ∧ Aq (w'.heap[gb112]? = some (.cells #[.int .i64 0, (.slice none 0 0)] 27 (0, 0))) ∧ Aq (w'.heap[gb113]? = some (.cells #[.int .i64 a1, u114001] 27 (0, 0))) ∧ Aq (IsS93 w0 w' g s0_0 x1001_1 x1002_1) ∧ Aq (KeepBut w w' g none) ∧ Aq (Below w0.heap.size w0 w'))
 case atStart => exact ⟨(t114), (t115), (t116), (([] : List Int)), (.slice none 0 0), tS, H', ⟨Nat.le_refl _⟩, ⟨by first | exact Kd.R_nil _ _ _ _ _ | exact Kd.N_nil _ _ _ _ _ | exact Kd.V_nil _ _ _ _ _ | exact Kd.Q_nil _ _ _ _ _ | exact Kd.S_nil _ _ _ _ _⟩, ⟨tG BK112.out⟩, ⟨tG BK113.out⟩, ⟨tI⟩, ⟨tK⟩, ⟨tB⟩⟩
 clear H'
 try clear hcz9_0
 try clear hcz9_1
 try clear hfz9_0
 try clear hfz9_1
 obtain ⟨x8_1, x1001_1, x1002_1, x114001_1, u114001, rfl, HA, HK1, HO_114001, BK112, BK113, HI0, HK, HB⟩ := hrel
 cases gk with
 | zero => exact absurd HA.out (by simp [spec_l02Drawn.l0])
 | succ k1 =>
  have H := HA.out
  clear HA
  simp only [spec_l02Drawn.l0] at H
  by_cases c11 : x8_1 > 0
  rotate_left
  ·rw [if_neg c11] at H
   have c11b0 := decide_eq_false c11
   clear c11
   simp only [Option.some.injEq, Prod.mk.injEq] at H
   obtain ⟨rfl, rfl, rfl, rfl⟩ := H
   have hnb66 := NB113_112.out
   have hnc66 := NB112_113.out
   have hnb67 := NB113_0.out
   have hnc67 := NB0_113.out
   have hcz68_0 : wr.cell? ⟨gb113, 0, none⟩ = some (.int .i64 a1) := (kQC BK113.out 0).trans rfl
   have hcz68_1 : wr.cell? ⟨gb113, 1, none⟩ = some (u114001) := (kQC BK113.out 1).trans rfl
   have hfz68_0 := kQF BK113.out 0
   have hfz68_1 := kQF BK113.out 1
   have hnb69 := NB112_0.out
   have hnc69 := NB0_112.out
   have hcz70_0 : wr.cell? ⟨gb112, 0, none⟩ = some (.int .i64 0) := (kQC BK112.out 0).trans rfl
   have hcz70_1 : wr.cell? ⟨gb112, 1, none⟩ = some (.slice none 0 0) := (kQC BK112.out 1).trans rfl
   have hfz70_0 := kQF BK112.out 0
   have hfz70_1 := kQF BK112.out 1
   obtain ⟨Ao71, co71, eo71⟩ := Kd.R_slice HO_114001.out
   subst eo71
   go_wp2
   refine bodyPost_ret (results_cell_row rfl _ _ gb112 27 #[.int .i64 a1, .slice Ao71 x114001_1.length co71] (0, 0) _ rfl (by (with_reducible repeat (first | refine kQN ?_ _ | refine kQD ?_ | refine kQA ?_ _)); refine kQP (cs := #[.int .i64 a1, .slice none 0 0]) ?_ 1 _ rfl; (with_reducible repeat (first | refine kQN ?_ _ | refine kQD ?_ | refine kQA ?_ _)); refine kQP (cs := #[.int .i64 0, .slice none 0 0]) ?_ 0 _ rfl; (with_reducible repeat (first | refine kQN ?_ _ | refine kQD ?_ | refine kQA ?_ _)); exact BK112.out) Try.underlying27 rfl (by kernel_rfl)) rfl ?_
   exact ⟨_, tE, by (with_reducible repeat (first | apply Kd.RqA | apply Kd.RqN | apply Kd.RqD)); exact Kd.R_mono (Kd.R_far (p := ⟨gb112, 1, none⟩) (Kd.R_far (p := ⟨gb112, 0, none⟩) (Kd.R_types HO_114001.out BK112.out (by decide)) (fun _ hk => hk.2) (.int .i64 a1)) (fun _ hk => hk.2) (.slice Ao71 x114001_1.length co71)) (fun _ hk => trivial), tI, tB, tK⟩
  rw [if_pos c11] at H
  have c11b0 := decide_eq_true c11
  clear c11
  obtain ⟨ji12, hji12⟩ : ∃ j_ : Int, (IntKind.u64.wrap (a1)) = j_ := ⟨_, rfl⟩
  first | rw [hji12] at H | simp only [hji12] at H | skip
  by_cases c13 : 0 ≤ (ji12)
  rotate_left
  ·rw [if_neg c13] at H
   exact absurd H (by simp)
  rw [if_pos c13] at H
  have c13b0 := eq_true c13
  have c13b1 := decide_eq_true c13
  clear c13
  obtain ⟨ji14, hji14⟩ : ∃ j_ : Int, (shl .i64 1 (ji12)) = j_ := ⟨_, rfl⟩
  first | rw [hji14] at H | simp only [hji14] at H | skip
  have hji14_ : (IntKind.i64.wrap (1 * 2 ^ min (ji12).toNat 64)) = ji14 := hji14
  have hji14z : (ji12) ≤ 64 → (IntKind.i64.wrap (1 * 2 ^ (ji12).toNat)) = ji14 := shl_small hji14
  have hji14u : (IntKind.i64.wrap (2 ^ min (ji12).toNat 64)) = ji14 := by have h_ := hji14_; rw [Int.one_mul] at h_; exact h_
  have hji14v : (ji12) ≤ 64 → (IntKind.i64.wrap (2 ^ (ji12).toNat)) = ji14 := fun hle_ => by have h_ := hji14z hle_; rw [Int.one_mul] at h_; exact h_
  have hji14y : (wrap64 (1 * 2 ^ min (ji12).toNat 64)) = ji14 := (i64_w _).symm.trans hji14_
  have hji14x : (ji12) ≤ 64 → (wrap64 (1 * 2 ^ (ji12).toNat)) = ji14 := fun h_ => (i64_w _).symm.trans (hji14z h_)
  obtain ⟨⟨t117, t118, t119⟩, A15, H⟩ := qBd H
  (try dsimp only at H)
  have HC16 := Aq.mk H
  clear H
  go_upto_region 6 with (first | ((with_reducible refine gQc (f := 82) rfl ?_); refine goesL_ (some 24) rfl rfl Try.func82 (by kernel_rfl) rfl #[.pointer (some ⟨g, 0, none⟩), .int .i64 ji14] rfl (by (try simp only [List.map_toArray, List.map_cons, List.map_nil]); first | done | (simp only [hji14]; rfl) | rfl | (simp only [List.length_drop, List.length_take]; rfl)) ?_; (with_reducible refine (spec_l00Src_pick.calls g s0_0 x1001_1 x1002_1 ji14 t117 t118 t119 w0 _ ?s1 ?s2 A15.out).mono ?_); (case s1 => exact tI); (case s2 => exact tB); rintro e w17 ⟨rfl, hi, hb, hk⟩; refine ⟨_, rfl, ?_⟩; refine qM6 (Kd.R_mono (Kd.R_keep (IsS93.apart (show IsS93 w0 _ g s0_0 x1001_1 x1002_1 from tI) (tR HO_114001.out) (by decide)) hk (fun _ h => h.2)) (fun _ h => h.1)) (KeepBut.blk hk (g' := gb112) (o := .cells #[.int .i64 0, .slice none 0 0] 27 (0, 0)) (tG BK112.out) NB112_0.out (by simp)) (KeepBut.blk hk (g' := gb113) (o := .cells #[.int .i64 a1, u114001] 27 (0, 0)) (tG BK113.out) NB113_0.out (by simp)) (KeepBut.trans tK hk (.inl rfl)) hb hi ?_; clear HO_114001 BK112 BK113 HK HB HI0; intro HO_114001 BK112 BK113 HK HB HI0; (try clear hb); (try clear hb2); (try clear hk); (try clear hi)))
  (try simp only [Act.put, qSa, qSb, qSc])
  go_cut [32] (fun v32 wc => ∃ (kq : Nat) (x32_15 : Bool) (x1001_15 : Int) (x1002_15 : Int), v32 = .bool x32_15 ∧ Aq (spec_l02Drawn.j1 kq a1 x8_1 t117 x32_15 s0_0 x1001_15 x1002_15 a1 x114001_1 = some (r1, r2, r3, r4)) ∧ Aq (kq ≤ k1) ∧ Aq (Kd.R (Kd.int .i64) 2 wc w.heap.size (fun _ => True) u114001 x114001_1) ∧ Aq (wc.heap[gb112]? = some (.cells #[.int .i64 0, (.slice none 0 0)] 27 (0, 0))) ∧ Aq (wc.heap[gb113]? = some (.cells #[.int .i64 a1, u114001] 27 (0, 0))) ∧ Aq (IsS93 w0 wc g s0_0 x1001_15 x1002_15) ∧ Aq (KeepBut w wc g none) ∧ Aq (Below w0.heap.size w0 wc))
  case first =>
   have H := HC16.out
   clear HC16
   obtain ⟨⟨t120, t121, t122⟩, A18, H⟩ := qBd H
   (try dsimp only at H)
   by_cases c19 : t120 = true
   ·subst c19
    rw [if_pos rfl] at H
    replace H' := Aq.mk H
    clear H
    go_wp2_with (first | ((with_reducible refine gQc (f := 83) rfl ?_); refine goesL_ (some 26) rfl rfl Try.func83 (by kernel_rfl) rfl #[.pointer (some ⟨g, 0, none⟩), .int .i64 3] rfl tL ?_; (with_reducible refine (spec_l00Src_one.calls g s0_0 t118 t119 3 true t121 t122 w0 _ ?s1 ?s2 A18.out).mono ?_); (case s1 => exact tI); (case s2 => exact tB); rintro e w20 ⟨rfl, hi, hb, hk⟩; refine ⟨_, rfl, ?_⟩; refine qM6 (Kd.R_mono (Kd.R_keep (IsS93.apart (show IsS93 w0 _ g s0_0 t118 t119 from tI) (tR HO_114001.out) (by decide)) hk (fun _ h => h.2)) (fun _ h => h.1)) (KeepBut.blk hk (g' := gb112) (o := .cells #[.int .i64 0, .slice none 0 0] 27 (0, 0)) (tG BK112.out) NB112_0.out (by simp)) (KeepBut.blk hk (g' := gb113) (o := .cells #[.int .i64 a1, u114001] 27 (0, 0)) (tG BK113.out) NB113_0.out (by simp)) (KeepBut.trans tK hk (.inl rfl)) hb hi ?_; clear HO_114001 BK112 BK113 HK HB HI0; intro HO_114001 BK112 BK113 HK HB HI0; (try clear hb); (try clear hb2); (try clear hk); (try clear hi); have hnb21 := NB113_112.out; have hnc21 := NB112_113.out; have hnb22 := NB113_0.out; have hnc22 := NB0_113.out; have hcz23_0 : w20.cell? ⟨gb113, 0, none⟩ = some (.int .i64 a1) := (kQC BK113.out 0).trans rfl; have hcz23_1 : w20.cell? ⟨gb113, 1, none⟩ = some (u114001) := (kQC BK113.out 1).trans rfl; have hfz23_0 := kQF BK113.out 0; have hfz23_1 := kQF BK113.out 1; obtain ⟨Ao24, co24, eo24⟩ := Kd.R_slice HO_114001.out; subst eo24))
    go_meet
    case rel => exact ⟨_, (decide ((x114001_1.length : Int) > 0)), (t121), (t122), tS, H', ⟨by have := HK1.out; first | omega | exact Nat.le_refl _⟩, ⟨tR HO_114001.out⟩, ⟨tG BK112.out⟩, ⟨tG BK113.out⟩, ⟨tI⟩, ⟨tK⟩, ⟨tB⟩⟩
   replace c19 := Bool.eq_false_iff.mpr c19
   subst c19
   rw [if_neg (show ¬ (false = true) by decide)] at H
   replace H' := Aq.mk H
   clear H
   go_wp2_with (first | ((with_reducible refine gQc (f := 83) rfl ?_); refine goesL_ (some 26) rfl rfl Try.func83 (by kernel_rfl) rfl #[.pointer (some ⟨g, 0, none⟩), .int .i64 3] rfl tL ?_; (with_reducible refine (spec_l00Src_one.calls g s0_0 t118 t119 3 false t121 t122 w0 _ ?s1 ?s2 A18.out).mono ?_); (case s1 => exact tI); (case s2 => exact tB); rintro e w25 ⟨rfl, hi, hb, hk⟩; refine ⟨_, rfl, ?_⟩; refine qM6 (Kd.R_mono (Kd.R_keep (IsS93.apart (show IsS93 w0 _ g s0_0 t118 t119 from tI) (tR HO_114001.out) (by decide)) hk (fun _ h => h.2)) (fun _ h => h.1)) (KeepBut.blk hk (g' := gb112) (o := .cells #[.int .i64 0, .slice none 0 0] 27 (0, 0)) (tG BK112.out) NB112_0.out (by simp)) (KeepBut.blk hk (g' := gb113) (o := .cells #[.int .i64 a1, u114001] 27 (0, 0)) (tG BK113.out) NB113_0.out (by simp)) (KeepBut.trans tK hk (.inl rfl)) hb hi ?_; clear HO_114001 BK112 BK113 HK HB HI0; intro HO_114001 BK112 BK113 HK HB HI0; (try clear hb); (try clear hb2); (try clear hk); (try clear hi)))
   go_meet
   case rel => exact ⟨_, (false), (t121), (t122), tS, H', ⟨by have := HK1.out; first | omega | exact Nat.le_refl _⟩, ⟨tR HO_114001.out⟩, ⟨tG BK112.out⟩, ⟨tG BK113.out⟩, ⟨tI⟩, ⟨tK⟩, ⟨tB⟩⟩
  clear HC16
  try clear c11
  try clear c11b0
  try clear c13
  try clear c13b0
  try clear c13b1
  try clear c19
  try clear hcz23_0
  try clear hcz23_1
  try clear hcz9_0
  try clear hcz9_1
  try clear hfz23_0
  try clear hfz23_1
  try clear hfz9_0
  try clear hfz9_1
  obtain ⟨kq, x32_15, x1001_15, x1002_15, rfl, HA, HJ15, HO_114001, BK112, BK113, HI0, HK, HB⟩ := hcut
  cases kq with
  | zero => exact absurd HA.out (by simp [spec_l02Drawn.j1])
  | succ kj15 =>
   have H := HA.out
   clear HA
   simp only [spec_l02Drawn.j1] at H
   by_cases c26 : x32_15 = true
   rotate_left
   ·replace c26 := Bool.eq_false_iff.mpr c26
    subst c26
    rw [if_neg (show ¬ (false = true) by decide)] at H
    by_cases c59 : x114001_1.length < 17592186044416
    rotate_left
    ·rw [if_neg c59] at H
     exact absurd H (by simp)
    rw [if_pos c59] at H
    have LMc59 := Aq.mk c59
    clear c59
    obtain ⟨y140, hy140⟩ : ∃ y_ : List Int, y_ = (x114001_1 ++ [t117]) := ⟨_, rfl⟩
    replace H : (spec_l02Drawn.l0 kj15 a1 (wrap64 (x8_1 - 1)) s0_0 x1001_15 x1002_15 a1 y140) = some (r1, r2, r3, r4) := by first | (rw [hy140]; with_reducible exact H) | (have H2_ := (Option.bind_some _ _).symm.trans H; rw [hy140]; with_reducible exact H2_) | (have H2_ := (Option.bind_some _ _).symm.trans H; with_reducible exact H2_) | with_reducible exact H | (rw [hy140]; exact H) | exact H
    have Ny140 := Aq.mk hy140
    clear hy140
    replace H' := Aq.mk H
    clear H
    have hnb60 := NB113_112.out
    have hnc60 := NB112_113.out
    have hnb61 := NB113_0.out
    have hnc61 := NB0_113.out
    have hcz62_0 : wc.cell? ⟨gb113, 0, none⟩ = some (.int .i64 a1) := (kQC BK113.out 0).trans rfl
    have hcz62_1 : wc.cell? ⟨gb113, 1, none⟩ = some (u114001) := (kQC BK113.out 1).trans rfl
    have hfz62_0 := kQF BK113.out 0
    have hfz62_1 := kQF BK113.out 1
    go_wp2_with (first | ((with_reducible refine gate_builtin (b := .append) (xs := #[.tmp 56, .tmp 58]) rfl ?_); (try (refine gate_guard (by rfl) ?_; dsimp only)); at_builtin; refine Kd.R_append (Kd.int .i64) w.heap.size rfl (.tmp 56) (.tmp 58) 25 2 (.int .i64 0) 8 rfl Try.underlying25 info2 rfl (by decide) (by omega) u114001 x114001_1 t117 [.int .i64 t117] (fun _ => True) (fun _ => False) rfl rfl ?aP (fun _ hk => hk.elim) ?aF ?aO (Below.refl _ _) ?aS ?aL ?_; (case aP => exact rfl); (case aF => exact (fun _ _ => trivial)); (case aO => exact (tR HO_114001.out)); (case aS => exact (keep_size (w := w) (g := g) (row := none) tK)); (case aL => have := LMc59.out; omega); intro v141 w63 ho hb hg hat; rw [← Ny140.out] at ho; refine qM6 (blk_grown (g := gb112) (o := .cells #[.int .i64 0, .slice none 0 0] 27 (0, 0)) (tG BK112.out) hg (Kd.R_ne HO_114001.out BK112.out (by decide))) (blk_grown (g := gb113) (o := .cells #[.int .i64 a1, u114001] 27 (0, 0)) (tG BK113.out) hg (Kd.R_ne HO_114001.out BK113.out (by decide))) (IsS93.grown tI hg (IsS93.own_ne HI0.out HO_114001.out (by decide))) (below_weaken tB HL.out hb) (KeepBut.trans tK (KeepBut.of_grown hg g) (Kd.R_base2 HO_114001.out)) ho ?_; clear BK112 BK113 HI0 HB HK HO_114001; intro BK112 BK113 HI0 HB HK HO142; clear ho hb hg hat; obtain ⟨Ao64, co64, eo64⟩ := Kd.R_slice HO142.out; subst eo64; have hcz65_0 : w63.cell? ⟨gb113, 0, none⟩ = some (.int .i64 a1) := (kQC BK113.out 0).trans rfl; have hcz65_1 : w63.cell? ⟨gb113, 1, none⟩ = some (u114001) := (kQC BK113.out 1).trans rfl; have hfz65_0 := kQF BK113.out 0; have hfz65_1 := kQF BK113.out 1))
    go_roundg kj15
    case measure => have := HK1.out; have := HJ15.out; omega
    case rel => exact ⟨(wrap64 (x8_1 - 1)), (x1001_15), (x1002_15), (y140), (.slice Ao64 y140.length co64), tS, H', ⟨by have := HK1.out; have := HJ15.out; omega⟩, ⟨by (with_reducible repeat (first | apply Kd.RqA | apply Kd.RqN | apply Kd.RqD)); exact Kd.R_mono (Kd.R_far (p := ⟨gb113, 1, none⟩) (Kd.R_types HO142.out BK113.out (by decide)) (fun _ hk => hk.2) (.slice Ao64 y140.length co64)) (fun _ hk => trivial)⟩, ⟨by (with_reducible repeat (first | refine kQN ?_ _ | refine kQD ?_ | refine kQA ?_ _)); refine kQR ?_ NB112_113.out _; (with_reducible repeat (first | refine kQN ?_ _ | refine kQD ?_ | refine kQA ?_ _)); exact BK112.out⟩, ⟨by (with_reducible repeat (first | refine kQN ?_ _ | refine kQD ?_ | refine kQA ?_ _)); refine kQP (cs := #[.int .i64 a1, u114001]) ?_ 1 _ rfl; (with_reducible repeat (first | refine kQN ?_ _ | refine kQD ?_ | refine kQA ?_ _)); exact BK113.out⟩, ⟨tI⟩, ⟨tK⟩, ⟨tB⟩⟩
   subst c26
   rw [if_pos rfl] at H
   obtain ⟨⟨t123, t124, t125⟩, A27, H⟩ := qBd H
   (try dsimp only at H)
   by_cases c28 : 0 ≤ t123
   rotate_left
   ·rw [if_neg c28] at H
    exact absurd H (by simp)
   rw [if_pos c28] at H
   have c28b0 := decide_eq_true c28
   clear c28
   by_cases c29 : t123 < (x114001_1.length : Int)
   rotate_left
   ·rw [if_neg c29] at H
    exact absurd H (by simp)
   rw [if_pos c29] at H
   have c29b0 := decide_eq_true c29
   clear c29
   obtain ⟨⟨t127, t128, t129⟩, A30, H⟩ := qBd H
   (try dsimp only at H)
   by_cases c31 : t127 = true
   rotate_left
   ·replace c31 := Bool.eq_false_iff.mpr c31
    subst c31
    rw [if_neg (show ¬ (false = true) by decide)] at H
    by_cases c48 : x114001_1.length < 17592186044416
    rotate_left
    ·rw [if_neg c48] at H
     exact absurd H (by simp)
    rw [if_pos c48] at H
    have LMc48 := Aq.mk c48
    clear c48
    obtain ⟨y137, hy137⟩ : ∃ y_ : List Int, y_ = (x114001_1 ++ [rd x114001_1 t123]) := ⟨_, rfl⟩
    replace H : (spec_l02Drawn.l0 kj15 a1 (wrap64 (x8_1 - 1)) s0_0 t128 t129 a1 y137) = some (r1, r2, r3, r4) := by first | (rw [hy137]; with_reducible exact H) | (have H2_ := (Option.bind_some _ _).symm.trans H; rw [hy137]; with_reducible exact H2_) | (have H2_ := (Option.bind_some _ _).symm.trans H; with_reducible exact H2_) | with_reducible exact H | (rw [hy137]; exact H) | exact H
    have Ny137 := Aq.mk hy137
    clear hy137
    replace H' := Aq.mk H
    clear H
    try go_wp2
    have n0_ := Aq.mk (Kd.RqD HO_114001.out)
    have n1_ := Aq.mk (kQD BK112.out)
    have n2_ := Aq.mk (kQD BK113.out)
    have n3_ := Aq.mk (IsS93.drew HI0.out)
    have n4_ := Aq.mk (keep_drew HK.out)
    have n5_ := Aq.mk (bQ1 HB.out)
    clear HO_114001
    clear BK112
    clear BK113
    clear HI0
    clear HK
    clear HB
    have HO_114001 := n0_
    have BK112 := n1_
    have BK113 := n2_
    have HI0 := n3_
    have HK := n4_
    have HB := n5_
    clear n0_ n1_ n2_ n3_ n4_ n5_
    obtain ⟨Ao50, co50, eo50⟩ := Kd.R_slice HO_114001.out
    (first | subst eo50 | (injection eo50 with f1_ f2_ f3_; have f4_ := f1_.symm; have f5_ := f3_.symm; clear f1_ f2_ f3_; subst f4_; subst f5_))
    have p126 : 0 ≤ (t123 : Int) := of_decide_eq_true tA
    have q126 : t123 < (x114001_1.length : Int) := of_decide_eq_true tA
    obtain ⟨ad126, e126, hx126_0⟩ := Kd.at_int (Kd.R_reads' HO_114001.out).2.2 t123 p126 q126
    cases e126
    replace p126 := eq_true p126
    replace q126 := eq_true q126
    refine start_ (n := 10) (S := fun w' => w'.cell? ⟨gb113, 0, none⟩ = some (.int .i64 a1) ∧ w'.cell? ⟨gb113, 1, none⟩ = some (.slice (some ad126) x114001_1.length co50) ∧ w'.cell? (ad126.add (t123).toNat) = some (.int .i64 (rd x114001_1 t123))) (ds := []) #[false, false, false, false, false, false, false, false, false, false] (by kernel_rfl) rfl rfl ⟨(kQC BK113.out 0).trans rfl, (kQC BK113.out 1).trans rfl, hx126_0⟩ (fun hHeld => ?_); refine with_tabW spec_l02Drawn.tab7 spec_l02Drawn.bits7 (fun HT_ HW_ => ?_)
    generalize wc.drew = w49 at HO_114001 BK112 BK113 HI0 HK HB hx126_0 hHeld ⊢
    refine tP0 0 33 (bm 10 1) ?_
    refine tP0 2 35 (bm 10 5) ?_
    refine tP0 3 36 (bm 10 13) ?_
    refine tT3 1 34 (bm 10 15) ?_
    refine tT3 4 37 (bm 10 31) ?_
    refine tP0 5 38 (bm 10 63) ?_
    refine one_ (i := 6) (N := some 39) (bm 10 127) rfl rfl (one_of HT_.out (by kernel_rfl)) (by decide) (fun K hK => ?_)
    refine goes_ Try.func82 (by kernel_rfl) rfl #[.pointer (some ⟨g, 0, none⟩), .int .i64 (x114001_1.length : Int)] (by rfl) rfl rfl tL ?_
    with_reducible refine (spec_l00Src_pick.calls g s0_0 x1001_15 x1002_15 (x114001_1.length : Int) t123 t124 t125 w0 _ ?s1 ?s2 A27.out).mono ?_
    (case s1 => exact tI)
    (case s2 => exact tB)
    rintro e w51 ⟨rfl, hi, hb, hk⟩
    have HS2_ := keep_cell hk (hHeld.2.2) (by first | (rw [add_block]; exact Kd.own_blk (IsS93.own_ne HI0.out HO_114001.out (by decide))) | (show (Addr.add _ _).block ≠ _; rw [add_block]; exact Kd.own_blk (IsS93.own_ne HI0.out HO_114001.out (by decide))) | exact Kd.own_blk (IsS93.own_ne HI0.out HO_114001.out (by decide)))
    refine ⟨_, rfl, ?_⟩
    have n0_ := Aq.mk (Kd.R_mono (Kd.R_keep (IsS93.apart (show IsS93 w0 _ g s0_0 x1001_15 x1002_15 from tI) (tR HO_114001.out) (by decide)) hk (fun _ h => h.2)) (fun _ h => h.1))
    have n1_ := Aq.mk (KeepBut.blk hk (g' := gb112) (o := .cells #[.int .i64 0, .slice none 0 0] 27 (0, 0)) (tG BK112.out) NB112_0.out (by simp))
    have n2_ := Aq.mk (KeepBut.blk hk (g' := gb113) (o := .cells #[.int .i64 a1, .slice (some ad126) x114001_1.length co50] 27 (0, 0)) (tG BK113.out) NB113_0.out (by simp))
    have n3_ := Aq.mk (KeepBut.trans tK hk (.inl rfl))
    have n4_ := Aq.mk (hb)
    have n5_ := Aq.mk (hi)
    clear HO_114001
    clear BK112
    clear BK113
    clear HK
    clear HB
    clear HI0
    have HO_114001 := n0_
    have BK112 := n1_
    have BK113 := n2_
    have HK := n3_
    have HB := n4_
    have HI0 := n5_
    clear n0_ n1_ n2_ n3_ n4_ n5_
    (try clear hb)
    (try clear hb2)
    (try clear hk)
    (try clear hi)
    refine hK.out _ _ ⟨(kQC BK113.out 0).trans rfl, (kQC BK113.out 1).trans rfl, HS2_⟩ (fun hHeld => ?_)
    clear hK K
    refine tN 39 ?_
    refine tP0 7 40 (bm 10 255) ?_
    refine tT3 8 41 (bm 10 511) ?_
    refine tP0 9 9 (bm 10 1023) ?_
    refine done_ (done_of HT_.out (by kernel_rfl)) ?_
    try go_wp2_with (first | ((with_reducible refine gQc (f := 83) rfl ?_); refine goesL_ (some 43) rfl rfl Try.func83 (by kernel_rfl) rfl #[.pointer (some ⟨g, 0, none⟩), .int .i64 2] rfl tL ?_; (with_reducible refine (spec_l00Src_one.calls g s0_0 t124 t125 2 false t128 t129 w0 _ ?s1 ?s2 A30.out).mono ?_); (case s1 => exact tI); (case s2 => exact tB); rintro e w52 ⟨rfl, hi, hb, hk⟩; refine ⟨_, rfl, ?_⟩; refine qM6 (Kd.R_mono (Kd.R_keep (IsS93.apart (show IsS93 w0 _ g s0_0 t124 t125 from tI) (tR HO_114001.out) (by decide)) hk (fun _ h => h.2)) (fun _ h => h.1)) (KeepBut.blk hk (g' := gb112) (o := .cells #[.int .i64 0, .slice none 0 0] 27 (0, 0)) (tG BK112.out) NB112_0.out (by simp)) (KeepBut.blk hk (g' := gb113) (o := .cells #[.int .i64 a1, .slice (some ad126) x114001_1.length co50] 27 (0, 0)) (tG BK113.out) NB113_0.out (by simp)) (KeepBut.trans tK hk (.inl rfl)) hb hi ?_; clear HO_114001 BK112 BK113 HK HB HI0; intro HO_114001 BK112 BK113 HK HB HI0; (try clear hb); (try clear hb2); (try clear hk); (try clear hi); have hnb53 := NB113_112.out; have hnc53 := NB112_113.out; have hnb54 := NB113_0.out; have hnc54 := NB0_113.out; have hcz55_0 : w52.cell? ⟨gb113, 0, none⟩ = some (.int .i64 a1) := (kQC BK113.out 0).trans rfl; have hcz55_1 : w52.cell? ⟨gb113, 1, none⟩ = some (.slice (some ad126) x114001_1.length co50) := (kQC BK113.out 1).trans rfl; have hfz55_0 := kQF BK113.out 0; have hfz55_1 := kQF BK113.out 1) | ((with_reducible refine gate_builtin (b := .append) (xs := #[.tmp 56, .tmp 58]) rfl ?_); (try (refine gate_guard (by rfl) ?_; dsimp only)); at_builtin; refine Kd.R_append (Kd.int .i64) w.heap.size rfl (.tmp 56) (.tmp 58) 25 2 (.int .i64 0) 8 rfl Try.underlying25 info2 rfl (by decide) (by omega) (.slice (some ad126) x114001_1.length co50) x114001_1 (rd x114001_1 t123) [.int .i64 (rd x114001_1 t123)] (fun _ => True) (fun _ => False) rfl rfl ?aP (fun _ hk => hk.elim) ?aF ?aO (Below.refl _ _) ?aS ?aL ?_; (case aP => exact rfl); (case aF => exact (fun _ _ => trivial)); (case aO => exact (tR HO_114001.out)); (case aS => exact (keep_size (w := w) (g := g) (row := none) tK)); (case aL => have := LMc48.out; omega); intro v138 w56 ho hb hg hat; rw [← Ny137.out] at ho; refine qM6 (blk_grown (g := gb112) (o := .cells #[.int .i64 0, .slice none 0 0] 27 (0, 0)) (tG BK112.out) hg (Kd.R_ne HO_114001.out BK112.out (by decide))) (blk_grown (g := gb113) (o := .cells #[.int .i64 a1, .slice (some ad126) x114001_1.length co50] 27 (0, 0)) (tG BK113.out) hg (Kd.R_ne HO_114001.out BK113.out (by decide))) (IsS93.grown tI hg (IsS93.own_ne HI0.out HO_114001.out (by decide))) (below_weaken tB HL.out hb) (KeepBut.trans tK (KeepBut.of_grown hg g) (Kd.R_base2 HO_114001.out)) ho ?_; clear BK112 BK113 HI0 HB HK HO_114001; intro BK112 BK113 HI0 HB HK HO139; clear ho hb hg hat; obtain ⟨Ao57, co57, eo57⟩ := Kd.R_slice HO139.out; subst eo57; have hcz58_0 : w56.cell? ⟨gb113, 0, none⟩ = some (.int .i64 a1) := (kQC BK113.out 0).trans rfl; have hcz58_1 : w56.cell? ⟨gb113, 1, none⟩ = some (.slice (some ad126) x114001_1.length co50) := (kQC BK113.out 1).trans rfl; have hfz58_0 := kQF BK113.out 0; have hfz58_1 := kQF BK113.out 1))
    go_roundg kj15
    case measure => have := HK1.out; have := HJ15.out; omega
    case rel => exact ⟨(wrap64 (x8_1 - 1)), (t128), (t129), (y137), (.slice Ao57 y137.length co57), tS, H', ⟨by have := HK1.out; have := HJ15.out; omega⟩, ⟨by (with_reducible repeat (first | apply Kd.RqA | apply Kd.RqN | apply Kd.RqD)); exact Kd.R_mono (Kd.R_far (p := ⟨gb113, 1, none⟩) (Kd.R_types HO139.out BK113.out (by decide)) (fun _ hk => hk.2) (.slice Ao57 y137.length co57)) (fun _ hk => trivial)⟩, ⟨by (with_reducible repeat (first | refine kQN ?_ _ | refine kQD ?_ | refine kQA ?_ _)); refine kQR ?_ NB112_113.out _; (with_reducible repeat (first | refine kQN ?_ _ | refine kQD ?_ | refine kQA ?_ _)); exact BK112.out⟩, ⟨by (with_reducible repeat (first | refine kQN ?_ _ | refine kQD ?_ | refine kQA ?_ _)); refine kQP (cs := #[.int .i64 a1, .slice (some ad126) x114001_1.length co50]) ?_ 1 _ rfl; (with_reducible repeat (first | refine kQN ?_ _ | refine kQD ?_ | refine kQA ?_ _)); exact BK113.out⟩, ⟨tI⟩, ⟨tK⟩, ⟨tB⟩⟩
   subst c31
   rw [if_pos rfl] at H
   obtain ⟨⟨t130, t131, t132⟩, A32, H⟩ := qBd H
   (try dsimp only at H)
   by_cases c33 : 0 ≤ t130
   rotate_left
   ·rw [if_neg c33] at H
    exact absurd H (by simp)
   rw [if_pos c33] at H
   have c33b0 := decide_eq_true c33
   clear c33
   by_cases c34 : t130 < (x114001_1.length : Int)
   rotate_left
   ·rw [if_neg c34] at H
    exact absurd H (by simp)
   rw [if_pos c34] at H
   have c34b0 := decide_eq_true c34
   clear c34
   by_cases c35 : x114001_1.length < 17592186044416
   rotate_left
   ·rw [if_neg c35] at H
    exact absurd H (by simp)
   rw [if_pos c35] at H
   have LMc35 := Aq.mk c35
   clear c35
   obtain ⟨y134, hy134⟩ : ∃ y_ : List Int, y_ = (x114001_1 ++ [Go.bits .xor .i64 (rd x114001_1 t123) (rd x114001_1 t130)]) := ⟨_, rfl⟩
   replace H : (spec_l02Drawn.l0 kj15 a1 (wrap64 (x8_1 - 1)) s0_0 t131 t132 a1 y134) = some (r1, r2, r3, r4) := by first | (rw [hy134]; with_reducible exact H) | (have H2_ := (Option.bind_some _ _).symm.trans H; rw [hy134]; with_reducible exact H2_) | (have H2_ := (Option.bind_some _ _).symm.trans H; with_reducible exact H2_) | with_reducible exact H | (rw [hy134]; exact H) | exact H
   have Ny134 := Aq.mk hy134
   clear hy134
   replace H' := Aq.mk H
   clear H
   try go_wp2
   have n0_ := Aq.mk (Kd.RqD HO_114001.out)
   have n1_ := Aq.mk (kQD BK112.out)
   have n2_ := Aq.mk (kQD BK113.out)
   have n3_ := Aq.mk (IsS93.drew HI0.out)
   have n4_ := Aq.mk (keep_drew HK.out)
   have n5_ := Aq.mk (bQ1 HB.out)
   clear HO_114001
   clear BK112
   clear BK113
   clear HI0
   clear HK
   clear HB
   have HO_114001 := n0_
   have BK112 := n1_
   have BK113 := n2_
   have HI0 := n3_
   have HK := n4_
   have HB := n5_
   clear n0_ n1_ n2_ n3_ n4_ n5_
   obtain ⟨Ao37, co37, eo37⟩ := Kd.R_slice HO_114001.out
   (first | subst eo37 | (injection eo37 with f1_ f2_ f3_; have f4_ := f1_.symm; have f5_ := f3_.symm; clear f1_ f2_ f3_; subst f4_; subst f5_))
   have p126 : 0 ≤ (t123 : Int) := of_decide_eq_true tA
   have q126 : t123 < (x114001_1.length : Int) := of_decide_eq_true tA
   obtain ⟨ad126, e126, hx126_0⟩ := Kd.at_int (Kd.R_reads' HO_114001.out).2.2 t123 p126 q126
   cases e126
   replace p126 := eq_true p126
   replace q126 := eq_true q126
   refine start_ (n := 10) (S := fun w' => w'.cell? ⟨gb113, 0, none⟩ = some (.int .i64 a1) ∧ w'.cell? ⟨gb113, 1, none⟩ = some (.slice (some ad126) x114001_1.length co37) ∧ w'.cell? (ad126.add (t123).toNat) = some (.int .i64 (rd x114001_1 t123))) (ds := []) #[false, false, false, false, false, false, false, false, false, false] (by kernel_rfl) rfl rfl ⟨(kQC BK113.out 0).trans rfl, (kQC BK113.out 1).trans rfl, hx126_0⟩ (fun hHeld => ?_); refine with_tabW spec_l02Drawn.tab7 spec_l02Drawn.bits7 (fun HT_ HW_ => ?_)
   generalize wc.drew = w36 at HO_114001 BK112 BK113 HI0 HK HB hx126_0 hHeld ⊢
   refine tP0 0 33 (bm 10 1) ?_
   refine tP0 2 35 (bm 10 5) ?_
   refine tP0 3 36 (bm 10 13) ?_
   refine tT3 1 34 (bm 10 15) ?_
   refine tT3 4 37 (bm 10 31) ?_
   refine tP0 5 38 (bm 10 63) ?_
   refine one_ (i := 6) (N := some 39) (bm 10 127) rfl rfl (one_of HT_.out (by kernel_rfl)) (by decide) (fun K hK => ?_)
   refine goes_ Try.func82 (by kernel_rfl) rfl #[.pointer (some ⟨g, 0, none⟩), .int .i64 (x114001_1.length : Int)] (by rfl) rfl rfl tL ?_
   with_reducible refine (spec_l00Src_pick.calls g s0_0 x1001_15 x1002_15 (x114001_1.length : Int) t123 t124 t125 w0 _ ?s1 ?s2 A27.out).mono ?_
   (case s1 => exact tI)
   (case s2 => exact tB)
   rintro e w38 ⟨rfl, hi, hb, hk⟩
   have HS2_ := keep_cell hk (hHeld.2.2) (by first | (rw [add_block]; exact Kd.own_blk (IsS93.own_ne HI0.out HO_114001.out (by decide))) | (show (Addr.add _ _).block ≠ _; rw [add_block]; exact Kd.own_blk (IsS93.own_ne HI0.out HO_114001.out (by decide))) | exact Kd.own_blk (IsS93.own_ne HI0.out HO_114001.out (by decide)))
   refine ⟨_, rfl, ?_⟩
   have n0_ := Aq.mk (Kd.R_mono (Kd.R_keep (IsS93.apart (show IsS93 w0 _ g s0_0 x1001_15 x1002_15 from tI) (tR HO_114001.out) (by decide)) hk (fun _ h => h.2)) (fun _ h => h.1))
   have n1_ := Aq.mk (KeepBut.blk hk (g' := gb112) (o := .cells #[.int .i64 0, .slice none 0 0] 27 (0, 0)) (tG BK112.out) NB112_0.out (by simp))
   have n2_ := Aq.mk (KeepBut.blk hk (g' := gb113) (o := .cells #[.int .i64 a1, .slice (some ad126) x114001_1.length co37] 27 (0, 0)) (tG BK113.out) NB113_0.out (by simp))
   have n3_ := Aq.mk (KeepBut.trans tK hk (.inl rfl))
   have n4_ := Aq.mk (hb)
   have n5_ := Aq.mk (hi)
   clear HO_114001
   clear BK112
   clear BK113
   clear HK
   clear HB
   clear HI0
   have HO_114001 := n0_
   have BK112 := n1_
   have BK113 := n2_
   have HK := n3_
   have HB := n4_
   have HI0 := n5_
   clear n0_ n1_ n2_ n3_ n4_ n5_
   (try clear hb)
   (try clear hb2)
   (try clear hk)
   (try clear hi)
   refine hK.out _ _ ⟨(kQC BK113.out 0).trans rfl, (kQC BK113.out 1).trans rfl, HS2_⟩ (fun hHeld => ?_)
   clear hK K
   refine tN 39 ?_
   refine tP0 7 40 (bm 10 255) ?_
   refine tT3 8 41 (bm 10 511) ?_
   refine tP0 9 9 (bm 10 1023) ?_
   refine done_ (done_of HT_.out (by kernel_rfl)) ?_
   try go_wp2_with (first | ((with_reducible refine gQc (f := 83) rfl ?_); refine goesL_ (some 43) rfl rfl Try.func83 (by kernel_rfl) rfl #[.pointer (some ⟨g, 0, none⟩), .int .i64 2] rfl tL ?_; (with_reducible refine (spec_l00Src_one.calls g s0_0 t124 t125 2 true t128 t129 w0 _ ?s1 ?s2 A30.out).mono ?_); (case s1 => exact tI); (case s2 => exact tB); rintro e w39 ⟨rfl, hi, hb, hk⟩; refine ⟨_, rfl, ?_⟩; refine qM6 (Kd.R_mono (Kd.R_keep (IsS93.apart (show IsS93 w0 _ g s0_0 t124 t125 from tI) (tR HO_114001.out) (by decide)) hk (fun _ h => h.2)) (fun _ h => h.1)) (KeepBut.blk hk (g' := gb112) (o := .cells #[.int .i64 0, .slice none 0 0] 27 (0, 0)) (tG BK112.out) NB112_0.out (by simp)) (KeepBut.blk hk (g' := gb113) (o := .cells #[.int .i64 a1, .slice (some ad126) x114001_1.length co37] 27 (0, 0)) (tG BK113.out) NB113_0.out (by simp)) (KeepBut.trans tK hk (.inl rfl)) hb hi ?_; clear HO_114001 BK112 BK113 HK HB HI0; intro HO_114001 BK112 BK113 HK HB HI0; (try clear hb); (try clear hb2); (try clear hk); (try clear hi)))
   have n0_ := Aq.mk (Kd.RqD HO_114001.out)
   have n1_ := Aq.mk (kQD BK112.out)
   have n2_ := Aq.mk (kQD BK113.out)
   have n3_ := Aq.mk (IsS93.drew HI0.out)
   have n4_ := Aq.mk (keep_drew HK.out)
   have n5_ := Aq.mk (bQ1 HB.out)
   clear HO_114001
   clear BK112
   clear BK113
   clear HI0
   clear HK
   clear HB
   have HO_114001 := n0_
   have BK112 := n1_
   have BK113 := n2_
   have HI0 := n3_
   have HK := n4_
   have HB := n5_
   clear n0_ n1_ n2_ n3_ n4_ n5_
   have p133 : 0 ≤ (t130 : Int) := of_decide_eq_true tA
   have q133 : t130 < (x114001_1.length : Int) := of_decide_eq_true tA
   obtain ⟨ad133, e133, hx133_0⟩ := Kd.at_int (Kd.R_reads' HO_114001.out).2.2 t130 p133 q133
   obtain rfl : ad126 = ad133 := (by injection e133)
   replace p133 := eq_true p133
   replace q133 := eq_true q133
   refine start_ (n := 12) (S := fun w' => w'.cell? ⟨gb113, 0, none⟩ = some (.int .i64 a1) ∧ w'.cell? ⟨gb113, 1, none⟩ = some (.slice (some ad126) x114001_1.length co37) ∧ w'.cell? (ad126.add (t130).toNat) = some (.int .i64 (rd x114001_1 t130))) (ds := []) #[false, false, false, false, false, false, false, false, false, false, false, false] (by kernel_rfl) rfl rfl ⟨(kQC BK113.out 0).trans rfl, (kQC BK113.out 1).trans rfl, hx133_0⟩ (fun hHeld => ?_); refine with_tabW spec_l02Drawn.tab9 spec_l02Drawn.bits9 (fun HT_ HW_ => ?_)
   generalize w39.drew = w40 at HO_114001 BK112 BK113 HI0 HK HB hx133_0 hHeld ⊢
   refine tP0 0 44 (bm 12 1) ?_
   refine tP0 1 45 (bm 12 3) ?_
   refine tP0 3 47 (bm 12 11) ?_
   refine tP0 4 48 (bm 12 27) ?_
   refine tT3 2 46 (bm 12 31) ?_
   refine tT3 5 49 (bm 12 63) ?_
   refine tP0 6 50 (bm 12 127) ?_
   refine one_ (i := 7) (N := some 51) (bm 12 255) rfl rfl (one_of HT_.out (by kernel_rfl)) (by decide) (fun K hK => ?_)
   refine goes_ Try.func82 (by kernel_rfl) rfl #[.pointer (some ⟨g, 0, none⟩), .int .i64 (x114001_1.length : Int)] (by rfl) rfl rfl tL ?_
   with_reducible refine (spec_l00Src_pick.calls g s0_0 t128 t129 (x114001_1.length : Int) t130 t131 t132 w0 _ ?s1 ?s2 A32.out).mono ?_
   (case s1 => exact tI)
   (case s2 => exact tB)
   rintro e w41 ⟨rfl, hi, hb, hk⟩
   have HS2_ := keep_cell hk (hHeld.2.2) (by first | (rw [add_block]; exact Kd.own_blk (IsS93.own_ne HI0.out HO_114001.out (by decide))) | (show (Addr.add _ _).block ≠ _; rw [add_block]; exact Kd.own_blk (IsS93.own_ne HI0.out HO_114001.out (by decide))) | exact Kd.own_blk (IsS93.own_ne HI0.out HO_114001.out (by decide)))
   refine ⟨_, rfl, ?_⟩
   have n0_ := Aq.mk (Kd.R_mono (Kd.R_keep (IsS93.apart (show IsS93 w0 _ g s0_0 t128 t129 from tI) (tR HO_114001.out) (by decide)) hk (fun _ h => h.2)) (fun _ h => h.1))
   have n1_ := Aq.mk (KeepBut.blk hk (g' := gb112) (o := .cells #[.int .i64 0, .slice none 0 0] 27 (0, 0)) (tG BK112.out) NB112_0.out (by simp))
   have n2_ := Aq.mk (KeepBut.blk hk (g' := gb113) (o := .cells #[.int .i64 a1, .slice (some ad126) x114001_1.length co37] 27 (0, 0)) (tG BK113.out) NB113_0.out (by simp))
   have n3_ := Aq.mk (KeepBut.trans tK hk (.inl rfl))
   have n4_ := Aq.mk (hb)
   have n5_ := Aq.mk (hi)
   clear HO_114001
   clear BK112
   clear BK113
   clear HK
   clear HB
   clear HI0
   have HO_114001 := n0_
   have BK112 := n1_
   have BK113 := n2_
   have HK := n3_
   have HB := n4_
   have HI0 := n5_
   clear n0_ n1_ n2_ n3_ n4_ n5_
   (try clear hb)
   (try clear hb2)
   (try clear hk)
   (try clear hi)
   refine hK.out _ _ ⟨(kQC BK113.out 0).trans rfl, (kQC BK113.out 1).trans rfl, HS2_⟩ (fun hHeld => ?_)
   clear hK K
   refine tN 51 ?_
   refine tP0 8 52 (bm 12 511) ?_
   refine tT3 9 53 (bm 12 1023) ?_
   refine tP0 10 54 (bm 12 2047) ?_
   refine tP0 11 9 (bm 12 4095) ?_
   refine done_ (done_of HT_.out (by kernel_rfl)) ?_
   have hnb42 := NB113_112.out
   have hnc42 := NB112_113.out
   have hnb43 := NB113_0.out
   have hnc43 := NB0_113.out
   have hcz44_0 : w41.cell? ⟨gb113, 0, none⟩ = some (.int .i64 a1) := (kQC BK113.out 0).trans rfl
   have hcz44_1 : w41.cell? ⟨gb113, 1, none⟩ = some (.slice (some ad126) x114001_1.length co37) := (kQC BK113.out 1).trans rfl
   have hfz44_0 := kQF BK113.out 0
   have hfz44_1 := kQF BK113.out 1
   try go_wp2_with (first | ((with_reducible refine gate_builtin (b := .append) (xs := #[.tmp 56, .tmp 58]) rfl ?_); (try (refine gate_guard (by rfl) ?_; dsimp only)); at_builtin; refine Kd.R_append (Kd.int .i64) w.heap.size rfl (.tmp 56) (.tmp 58) 25 2 (.int .i64 0) 8 rfl Try.underlying25 info2 rfl (by decide) (by omega) (.slice (some ad126) x114001_1.length co37) x114001_1 (Go.bits .xor .i64 (rd x114001_1 t123) (rd x114001_1 t130)) [.int .i64 (Go.bits .xor .i64 (rd x114001_1 t123) (rd x114001_1 t130))] (fun _ => True) (fun _ => False) rfl rfl ?aP (fun _ hk => hk.elim) ?aF ?aO (Below.refl _ _) ?aS ?aL ?_; (case aP => exact rfl); (case aF => exact (fun _ _ => trivial)); (case aO => exact (tR HO_114001.out)); (case aS => exact (keep_size (w := w) (g := g) (row := none) tK)); (case aL => have := LMc35.out; omega); intro v135 w45 ho hb hg hat; rw [← Ny134.out] at ho; refine qM6 (blk_grown (g := gb112) (o := .cells #[.int .i64 0, .slice none 0 0] 27 (0, 0)) (tG BK112.out) hg (Kd.R_ne HO_114001.out BK112.out (by decide))) (blk_grown (g := gb113) (o := .cells #[.int .i64 a1, .slice (some ad126) x114001_1.length co37] 27 (0, 0)) (tG BK113.out) hg (Kd.R_ne HO_114001.out BK113.out (by decide))) (IsS93.grown tI hg (IsS93.own_ne HI0.out HO_114001.out (by decide))) (below_weaken tB HL.out hb) (KeepBut.trans tK (KeepBut.of_grown hg g) (Kd.R_base2 HO_114001.out)) ho ?_; clear BK112 BK113 HI0 HB HK HO_114001; intro BK112 BK113 HI0 HB HK HO136; clear ho hb hg hat; obtain ⟨Ao46, co46, eo46⟩ := Kd.R_slice HO136.out; subst eo46; have hcz47_0 : w45.cell? ⟨gb113, 0, none⟩ = some (.int .i64 a1) := (kQC BK113.out 0).trans rfl; have hcz47_1 : w45.cell? ⟨gb113, 1, none⟩ = some (.slice (some ad126) x114001_1.length co37) := (kQC BK113.out 1).trans rfl; have hfz47_0 := kQF BK113.out 0; have hfz47_1 := kQF BK113.out 1))
   go_roundg kj15
   case measure => have := HK1.out; have := HJ15.out; omega
   case rel => exact ⟨(wrap64 (x8_1 - 1)), (t131), (t132), (y134), (.slice Ao46 y134.length co46), tS, H', ⟨by have := HK1.out; have := HJ15.out; omega⟩, ⟨by (with_reducible repeat (first | apply Kd.RqA | apply Kd.RqN | apply Kd.RqD)); exact Kd.R_mono (Kd.R_far (p := ⟨gb113, 1, none⟩) (Kd.R_types HO136.out BK113.out (by decide)) (fun _ hk => hk.2) (.slice Ao46 y134.length co46)) (fun _ hk => trivial)⟩, ⟨by (with_reducible repeat (first | refine kQN ?_ _ | refine kQD ?_ | refine kQA ?_ _)); refine kQR ?_ NB112_113.out _; (with_reducible repeat (first | refine kQN ?_ _ | refine kQD ?_ | refine kQA ?_ _)); exact BK112.out⟩, ⟨by (with_reducible repeat (first | refine kQN ?_ _ | refine kQD ?_ | refine kQA ?_ _)); refine kQP (cs := #[.int .i64 a1, .slice (some ad126) x114001_1.length co37]) ?_ 1 _ rfl; (with_reducible repeat (first | refine kQN ?_ _ | refine kQD ?_ | refine kQA ?_ _)); exact BK113.out⟩, ⟨tI⟩, ⟨tK⟩, ⟨tB⟩⟩
end Go.Proofs.Ythjfilmdobkmlaa.P
