/- Functions of the program and what they tell, as the printing program wrote it. -/
import Derived.Test.YtbaicdgkpnbipaaPx0
import Derived.Test.YtbaicdgkpnbipaaPx22
namespace Go.Proofs.Ytbaicdgkpnbipaa.P
open Go.Shelf Go.RowKit Go.Proofs.YtbaicdgkpnbipaaW.PrintWords Go.Proofs.YtbaicdgkpnbipaaW.PrintLast Go.Proofs.YtbaicdgkpnbipaaW.PrintMore
attribute [local go_sem] max2_int min2_int max_two min_two max_three min_three max_four min_four
set_option linter.unusedVariables false
set_option linter.unusedSimpArgs false
mutual
def spec_l02Drawn.l0 : Nat → Int → Int → List Int → Int → Int → Int → List Int → Option (Int × List Int × Int × Int)
  | 0, _, _, _, _, _, _, _ => none
  | k + 1, x1, x8, x1000, x1001, x1002, x389000, x389001 => if x8 > 0 then (if 0 ≤ (IntKind.u64.wrap (x1)) then ((spec_l00Src_pick.f x1000 x1001 x1002 (shl .i64 1 (IntKind.u64.wrap (x1)))).bind fun bt392 => ((spec_l00Src_one.f x1000 bt392.2.1 bt392.2.2 3).bind fun bt395 => (if bt395.1 = true then (spec_l02Drawn.j1 k x1 x8 bt392.1 (decide ((x389001.length : Int) > 0)) x1000 bt395.2.1 bt395.2.2 x389000 x389001) else (spec_l02Drawn.j1 k x1 x8 bt392.1 false x1000 bt395.2.1 bt395.2.2 x389000 x389001)))) else (none)) else (some (x389000, x389001, x1001, x1002))
def spec_l02Drawn.j1 : Nat → Int → Int → Int → Bool → List Int → Int → Int → Int → List Int → Option (Int × List Int × Int × Int)
  | 0, _, _, _, _, _, _, _, _, _ => none
  | k + 1, x1, x8, x9, x32, x1000, x1001, x1002, x389000, x389001 => if x32 = true then ((spec_l00Src_pick.f x1000 x1001 x1002 (x389001.length : Int)).bind fun bt398 => (if 0 ≤ bt398.1 then (if bt398.1 < (x389001.length : Int) then ((spec_l00Src_one.f x1000 bt398.2.1 bt398.2.2 2).bind fun bt402 => (if bt402.1 = true then ((spec_l00Src_pick.f x1000 bt402.2.1 bt402.2.2 (x389001.length : Int)).bind fun bt405 => (if 0 ≤ bt405.1 then (if bt405.1 < (x389001.length : Int) then (if x389001.length < 17592186044416 then (spec_l02Drawn.l0 k x1 (wrap64 (x8 - 1)) x1000 bt405.2.1 bt405.2.2 x389000 (x389001 ++ [Go.bits .xor .i64 (rd x389001 bt398.1) (rd x389001 bt405.1)])) else (none)) else (none)) else (none))) else (if x389001.length < 17592186044416 then (spec_l02Drawn.l0 k x1 (wrap64 (x8 - 1)) x1000 bt402.2.1 bt402.2.2 x389000 (x389001 ++ [rd x389001 bt398.1])) else (none)))) else (none)) else (none))) else (if x389001.length < 17592186044416 then (spec_l02Drawn.l0 k x1 (wrap64 (x8 - 1)) x1000 x1001 x1002 x389000 (x389001 ++ [x9])) else (none))
end
def spec_l02Drawn.f (k : Nat) (s0_0 : List Int) (s0_1 : Int) (s0_2 : Int) (a1 : Int) (a2 : Int) : Option (Int × List Int × Int × Int) := (spec_l00Src_pick.f s0_0 s0_1 s0_2 (wrap64 (a2 + 1))).bind fun bt389 => (spec_l02Drawn.l0 k a1 bt389.1 s0_0 bt389.2.1 bt389.2.2 a1 ([] : List Int))
theorem spec_l02Drawn.mono_l : ∀ k, (∀ y0 y1 y2 y3 y4 y5 y6, LeO (spec_l02Drawn.l0 k y0 y1 y2 y3 y4 y5 y6) (spec_l02Drawn.l0 (k + 1) y0 y1 y2 y3 y4 y5 y6)) ∧ (∀ y0 y1 y2 y3 y4 y5 y6 y7 y8, LeO (spec_l02Drawn.j1 k y0 y1 y2 y3 y4 y5 y6 y7 y8) (spec_l02Drawn.j1 (k + 1) y0 y1 y2 y3 y4 y5 y6 y7 y8))
 | 0 => ⟨fun _ _ _ _ _ _ _ r h => by simp [spec_l02Drawn.l0] at h, fun _ _ _ _ _ _ _ _ _ r h => by simp [spec_l02Drawn.j1] at h⟩
 | k + 1 => by
  obtain ⟨ih0, ih1⟩ := spec_l02Drawn.mono_l k
  refine ⟨?_, ?_⟩
  ·intro y0 y1 y2 y3 y4 y5 y6
   unfold spec_l02Drawn.l0
   repeat' first
   | (with_reducible first | exact ih0 _ _ _ _ _ _ _ | exact ih1 _ _ _ _ _ _ _ _ _ | exact LeO.refl _ | exact LeO.none _ | refine LeO.ite ?_ ?_ | refine LeO.bind ?_ (fun _ => ?_))
   | exact LeO.none _
   | refine LeO.ite ?_ ?_
   | refine LeO.bind ?_ (fun _ => ?_)
  ·intro y0 y1 y2 y3 y4 y5 y6 y7 y8
   unfold spec_l02Drawn.j1
   repeat' first
   | (with_reducible first | exact ih0 _ _ _ _ _ _ _ | exact ih1 _ _ _ _ _ _ _ _ _ | exact LeO.refl _ | exact LeO.none _ | refine LeO.ite ?_ ?_ | refine LeO.bind ?_ (fun _ => ?_))
   | exact LeO.none _
   | refine LeO.ite ?_ ?_
   | refine LeO.bind ?_ (fun _ => ?_)
theorem spec_l02Drawn.mono : ∀ a0 a1 a2 a3 a4 k, LeO (spec_l02Drawn.f k a0 a1 a2 a3 a4) (spec_l02Drawn.f (k + 1) a0 a1 a2 a3 a4) := by
 intro a0 a1 a2 a3 a4 k
 obtain ⟨ih0, ih1⟩ := spec_l02Drawn.mono_l k
 unfold spec_l02Drawn.f
 repeat' first
  | (with_reducible first | exact ih0 _ _ _ _ _ _ _ | exact ih1 _ _ _ _ _ _ _ _ _ | exact LeO.refl _ | exact LeO.none _ | refine LeO.ite ?_ ?_ | refine LeO.bind ?_ (fun _ => ?_))
  | exact LeO.none _
  | refine LeO.ite ?_ ?_
  | refine LeO.bind ?_ (fun _ => ?_)
def spec_l02Drawn.T7 : Bool × List (List Nat × List Nat) := (true, [([], []), ([0], [0]), ([], []), ([], []), ([3], [3]), ([4], [4]), ([2, 5], [2, 5]), ([1, 6], [1, 6]), ([7], [7]), ([8, 6, 0, 1, 2, 3, 4, 5, 6, 7, 8], [8])])
def spec_l02Drawn.B7 : List Nat := [0, 1, 0, 0, 8, 24, 60, 127, 255, 511]
theorem spec_l02Drawn.tab7 : rtab .any (opsOf Try.f67 7) = spec_l02Drawn.T7 := by kernel_rfl
theorem spec_l02Drawn.bits7 : waitsOk spec_l02Drawn.T7.2 spec_l02Drawn.B7 = true := by kernel_rfl
def spec_l02Drawn.T9 : Bool × List (List Nat × List Nat) := (true, [([], []), ([], []), ([1], [1]), ([], []), ([], []), ([4], [4]), ([5], [5]), ([3, 6], [3, 6]), ([2, 7], [2, 7]), ([8], [8]), ([0, 9], [0, 9]), ([10, 7, 0, 1, 2, 3, 4, 5, 6, 7, 8, 9, 10], [0, 10])])
def spec_l02Drawn.B9 : List Nat := [0, 0, 2, 0, 0, 16, 48, 120, 254, 510, 1023, 2047]
theorem spec_l02Drawn.tab9 : rtab .any (opsOf Try.f67 9) = spec_l02Drawn.T9 := by kernel_rfl
theorem spec_l02Drawn.bits9 : waitsOk spec_l02Drawn.T9.2 spec_l02Drawn.B9 = true := by kernel_rfl
set_option maxHeartbeats 8000000 in
set_option maxRecDepth 100000 in
theorem spec_l02Drawn.calls (k : Nat) (g : Nat) (s0_0 : List Int) (s0_1 : Int) (s0_2 : Int) (a1 : Int) (a2 : Int) (r1 : Int) (r2 : List Int) (r3 : Int) (r4 : Int) (w0 w : World) (hI : IsS90 w0 w g s0_0 s0_1 s0_2) (hB : Below w0.heap.size w0 w) (h : spec_l02Drawn.f k s0_0 s0_1 s0_2 a1 a2 = some (r1, r2, r3, r4)) :
 Calls Try.prog 67 #[.pointer (some ⟨g, 0, none⟩), .int .i64 a1, .int .i64 a2] w fun e w' => ∃ v1_ : Value, e = .returned (.agg #[.int .i64 r1, v1_]) ∧ Kd.R (Kd.int .i64) 2 w' w.heap.size (fun _ => True) v1_ r2 ∧ IsS90 w0 w' g s0_0 r3 r4 ∧ Below w0.heap.size w0 w' ∧ KeepBut w w' g none := by
 have hu26 := Try.underlying26
 have HI0 := Aq.mk hI
 have HK := Aq.mk (KeepBut.refl w g none)
 have HL := Aq.mk hB.size
 clear hI
 have HW0 := Aq.mk hB.size
 have HB := Aq.mk hB
 clear hB
 have H : ((spec_l00Src_pick.f s0_0 s0_1 s0_2 (wrap64 (a2 + 1))).bind fun bt389 => (spec_l02Drawn.l0 k a1 bt389.1 s0_0 bt389.2.1 bt389.2.2 a1 ([] : List Int))) = some (r1, r2, r3, r4) := h
 clear h
 replace H := Option.bind_eq_some_iff.mp H
 obtain ⟨⟨t389, t390, t391⟩, A40, H⟩ := H
 replace H : (spec_l02Drawn.l0 k a1 t389 s0_0 t390 t391 a1 ([] : List Int)) = some (r1, r2, r3, r4) := H
 have A4 := Aq.mk A40
 clear A40
 have H' := Aq.mk H
 clear H
 go_enter Try.func67, Try.ntmps67
 go_wp2_with (first | ((with_reducible refine gQd (N := 6) rfl ?_); (try (refine gate_guard (by rfl) ?_; dsimp only)); refine xQe ?hg (N := 6) ?hd (cs := #[.int .i64 0, .slice none 0 0]) (t := 26) ?hr ?_; (case hd => rfl); (case hg => rfl); (case hr => first | (go_simp; done) | (go_simp; rfl)); intro gb387 hg w5 hbox hb; have n0_ := Aq.mk (IsS90.below (by repeat (first | (with_reducible first | exact HI0.out | apply IsS90.alloc | apply IsS90.drewN | apply IsS90.drew | apply IsS90.set_1 | apply IsS90.set_2) | exact HI0.out)) hb); have n1_ := Aq.mk (KeepBut.trans (by repeat (first | (with_reducible first | exact HK.out | apply KeepBut.set_ | apply keep_drewN | apply keep_drew | apply keep_alloc) | exact HK.out)) (KeepBut.of_below hb g none) (.inl rfl)); have n2_ := Aq.mk (bQT (by repeat (first | (with_reducible first | exact HB.out | apply bQA | apply bQN | apply bQ1 | refine bQS ?_ (IsS90.ge HI0.out)) | exact HB.out)) hb); have n3_ := Aq.mk (hbox); have n4_ := Aq.mk ((by rw [hg]; exact (keep_size (w := w) (g := g) (row := none) (by repeat (first | (with_reducible first | exact HK.out | apply KeepBut.set_ | apply keep_drewN | apply keep_drew | apply keep_alloc) | exact HK.out))) : w.heap.size ≤ gb387)); have n5_ := Aq.mk ((Nat.le_trans HW0.out (by rw [hg]; exact (keep_size (w := w) (g := g) (row := none) (by repeat (first | (with_reducible first | exact HK.out | apply KeepBut.set_ | apply keep_drewN | apply keep_drew | apply keep_alloc) | exact HK.out))) : w.heap.size ≤ gb387) : w0.heap.size ≤ gb387)); have n6_ := Aq.mk ((by rw [hg]; exact Nat.ne_of_lt (IsS90.lt (show IsS90 w0 _ g s0_0 s0_1 s0_2 from by repeat (first | (with_reducible first | exact HI0.out | apply IsS90.alloc | apply IsS90.drewN | apply IsS90.drew | apply IsS90.set_1 | apply IsS90.set_2) | exact HI0.out))) : g ≠ gb387)); have n7_ := Aq.mk ((by rw [hg]; exact Nat.ne_of_gt (IsS90.lt (show IsS90 w0 _ g s0_0 s0_1 s0_2 from by repeat (first | (with_reducible first | exact HI0.out | apply IsS90.alloc | apply IsS90.drewN | apply IsS90.drew | apply IsS90.set_1 | apply IsS90.set_2) | exact HI0.out))) : gb387 ≠ g)); clear HI0; clear HK; clear HB; have HI0 := n0_; have HK := n1_; have HB := n2_; have BK387 := n3_; have GW387 := n4_; have GE387 := n5_; have NB0_387 := n6_; have NB387_0 := n7_; clear n0_ n1_ n2_ n3_ n4_ n5_ n6_ n7_; clear hb hbox hg) | ((with_reducible refine gQd (N := 7) rfl ?_); (try (refine gate_guard (by rfl) ?_; dsimp only)); refine xQe ?hg (N := 7) ?hd (cs := #[.int .i64 0, .slice none 0 0]) (t := 26) ?hr ?_; (case hd => rfl); (case hg => rfl); (case hr => first | (go_simp; done) | (go_simp; rfl)); intro gb388 hg w6 hbox hb; have n0_ := Aq.mk (IsS90.below (by repeat (first | (with_reducible first | exact HI0.out | apply IsS90.alloc | apply IsS90.drewN | apply IsS90.drew | apply IsS90.set_1 | apply IsS90.set_2 | refine IsS90.far ?_ NB0_387.out _) | exact HI0.out)) hb); have n1_ := Aq.mk (kQB (g := gb387) (o := .cells #[.int .i64 0, .slice none 0 0] 26 (0, 0)) (by (with_reducible repeat (first | refine kQN ?_ _ | refine kQD ?_ | refine kQA ?_ _)); exact BK387.out) hb); have n2_ := Aq.mk (KeepBut.trans (by repeat (first | (with_reducible first | exact HK.out | apply KeepBut.set_ | apply keep_drewN | apply keep_drew | apply keep_alloc | refine keep_far ?_ GW387.out _) | exact HK.out)) (KeepBut.of_below hb g none) (.inl rfl)); have n3_ := Aq.mk (bQT (by repeat (first | (with_reducible first | exact HB.out | apply bQA | apply bQN | apply bQ1 | refine bQS ?_ (IsS90.ge HI0.out) | refine bQS ?_ GE387.out) | exact HB.out)) hb); have n4_ := Aq.mk (hbox); have n5_ := Aq.mk ((by rw [hg]; exact (keep_size (w := w) (g := g) (row := none) (by repeat (first | (with_reducible first | exact HK.out | apply KeepBut.set_ | apply keep_drewN | apply keep_drew | apply keep_alloc | refine keep_far ?_ GW387.out _) | exact HK.out))) : w.heap.size ≤ gb388)); have n6_ := Aq.mk ((Nat.le_trans HW0.out (by rw [hg]; exact (keep_size (w := w) (g := g) (row := none) (by repeat (first | (with_reducible first | exact HK.out | apply KeepBut.set_ | apply keep_drewN | apply keep_drew | apply keep_alloc | refine keep_far ?_ GW387.out _) | exact HK.out))) : w.heap.size ≤ gb388) : w0.heap.size ≤ gb388)); have n7_ := Aq.mk ((by rw [hg]; exact Nat.ne_of_lt (blk_lt (g := gb387) (o := .cells #[.int .i64 0, .slice none 0 0] 26 (0, 0)) (by (with_reducible repeat (first | refine kQN ?_ _ | refine kQD ?_ | refine kQA ?_ _)); exact BK387.out)) : gb387 ≠ gb388)); have n8_ := Aq.mk ((by rw [hg]; exact Nat.ne_of_gt (blk_lt (g := gb387) (o := .cells #[.int .i64 0, .slice none 0 0] 26 (0, 0)) (by (with_reducible repeat (first | refine kQN ?_ _ | refine kQD ?_ | refine kQA ?_ _)); exact BK387.out)) : gb388 ≠ gb387)); have n9_ := Aq.mk ((by rw [hg]; exact Nat.ne_of_lt (IsS90.lt (show IsS90 w0 _ g s0_0 s0_1 s0_2 from by repeat (first | (with_reducible first | exact HI0.out | apply IsS90.alloc | apply IsS90.drewN | apply IsS90.drew | apply IsS90.set_1 | apply IsS90.set_2 | refine IsS90.far ?_ NB0_387.out _) | exact HI0.out))) : g ≠ gb388)); have n10_ := Aq.mk ((by rw [hg]; exact Nat.ne_of_gt (IsS90.lt (show IsS90 w0 _ g s0_0 s0_1 s0_2 from by repeat (first | (with_reducible first | exact HI0.out | apply IsS90.alloc | apply IsS90.drewN | apply IsS90.drew | apply IsS90.set_1 | apply IsS90.set_2 | refine IsS90.far ?_ NB0_387.out _) | exact HI0.out))) : gb388 ≠ g)); clear HI0; clear BK387; clear HK; clear HB; have HI0 := n0_; have BK387 := n1_; have HK := n2_; have HB := n3_; have BK388 := n4_; have GW388 := n5_; have GE388 := n6_; have NB387_388 := n7_; have NB388_387 := n8_; have NB0_388 := n9_; have NB388_0 := n10_; clear n0_ n1_ n2_ n3_ n4_ n5_ n6_ n7_ n8_ n9_ n10_; clear hb hbox hg; have hnb7 := NB388_387.out; have hnc7 := NB387_388.out; have hnb8 := NB388_0.out; have hnc8 := NB0_388.out; have hcz9_0 : w6.cell? ⟨gb388, 0, none⟩ = some (.int .i64 0) := (kQC BK388.out 0).trans rfl; have hcz9_1 : w6.cell? ⟨gb388, 1, none⟩ = some (.slice none 0 0) := (kQC BK388.out 1).trans rfl; have hfz9_0 := kQF BK388.out 0; have hfz9_1 := kQF BK388.out 1) | ((with_reducible refine gQc (f := 105) rfl ?_); refine goesL_ (some 15) rfl rfl Try.func105 (by kernel_rfl) rfl #[.pointer (some ⟨g, 0, none⟩), .int .i64 (wrap64 (a2 + 1))] rfl (by (try simp only [List.map_toArray, List.map_cons, List.map_nil]); first | done | rfl | (simp only [List.length_drop, List.length_take]; rfl)) ?_; (with_reducible refine (spec_l00Src_pick.calls g s0_0 s0_1 s0_2 (wrap64 (a2 + 1)) t389 t390 t391 w0 _ ?side1 ?side2 A4.out).mono ?_); (case side1 => repeat (first | (with_reducible first | exact HI0.out | apply IsS90.alloc | apply IsS90.drewN | apply IsS90.drew | apply IsS90.set_1 | apply IsS90.set_2 | refine IsS90.far ?_ NB0_387.out _ | refine IsS90.far ?_ NB0_388.out _) | exact HI0.out)); (case side2 => repeat (first | (with_reducible first | exact HB.out | apply bQA | apply bQN | apply bQ1 | refine bQS ?_ (IsS90.ge HI0.out) | refine bQS ?_ GE387.out | refine bQS ?_ GE388.out) | exact HB.out)); rintro e w10 ⟨rfl, hi, hb, hk⟩; refine ⟨_, rfl, ?_⟩; have n0_ := Aq.mk (KeepBut.blk hk (g' := gb387) (o := .cells #[.int .i64 0, .slice none 0 0] 26 (0, 0)) (by (with_reducible repeat (first | refine kQN ?_ _ | refine kQD ?_ | refine kQA ?_ _)); refine kQR ?_ NB387_388.out _; (with_reducible repeat (first | refine kQN ?_ _ | refine kQD ?_ | refine kQA ?_ _)); refine kQR ?_ NB387_388.out _; (with_reducible repeat (first | refine kQN ?_ _ | refine kQD ?_ | refine kQA ?_ _)); exact BK387.out) NB387_0.out (by simp)); have n1_ := Aq.mk (KeepBut.blk hk (g' := gb388) (o := .cells #[.int .i64 a1, .slice none 0 0] 26 (0, 0)) (by (with_reducible repeat (first | refine kQN ?_ _ | refine kQD ?_ | refine kQA ?_ _)); refine kQP (cs := #[.int .i64 a1, .slice none 0 0]) ?_ 1 _ rfl; (with_reducible repeat (first | refine kQN ?_ _ | refine kQD ?_ | refine kQA ?_ _)); refine kQP (cs := #[.int .i64 0, .slice none 0 0]) ?_ 0 _ rfl; (with_reducible repeat (first | refine kQN ?_ _ | refine kQD ?_ | refine kQA ?_ _)); exact BK388.out) NB388_0.out (by simp)); have n2_ := Aq.mk (KeepBut.trans (by repeat (first | (with_reducible first | exact HK.out | apply KeepBut.set_ | apply keep_drewN | apply keep_drew | apply keep_alloc | refine keep_far ?_ GW387.out _ | refine keep_far ?_ GW388.out _) | exact HK.out)) hk (.inl rfl)); have n3_ := Aq.mk (hb); have n4_ := Aq.mk (hi); clear BK387; clear BK388; clear HK; clear HB; clear HI0; have BK387 := n0_; have BK388 := n1_; have HK := n2_; have HB := n3_; have HI0 := n4_; clear n0_ n1_ n2_ n3_ n4_; (try clear hb); (try clear hb2); (try clear hk); (try clear hi)))
 go_loopg [8] k (fun kq v8 w' => ∃ (x8_1 : Int) (x1001_1 : Int) (x1002_1 : Int) (x389001_1 : List Int) (u389001 : Value), v8 = .int .i64 x8_1 ∧ Aq (spec_l02Drawn.l0 kq a1 x8_1 s0_0 x1001_1 x1002_1 a1 x389001_1 = some (r1, r2, r3, r4)) ∧ Aq (kq ≤ k) ∧ Aq (Kd.R (Kd.int .i64) 2 w' w.heap.size (fun _ => True) u389001 x389001_1) ∧ Aq (w'.heap[gb387]? = some (.cells #[.int .i64 0, (.slice none 0 0)] 26 (0, 0))) ∧ Aq (w'.heap[gb388]? = some (.cells #[.int .i64 a1, u389001] 26 (0, 0))) ∧ Aq (IsS90 w0 w' g s0_0 x1001_1 x1002_1) ∧ Aq (KeepBut w w' g none) ∧ Aq (Below w0.heap.size w0 w'))
 case atStart => exact ⟨(t389), (t390), (t391), (([] : List Int)), (.slice none 0 0), (by first | rfl | (simp; done) | (simp [*]; done)), H', ⟨Nat.le_refl _⟩, ⟨by first | exact Kd.R_nil _ _ _ _ _ | exact Kd.N_nil _ _ _ _ _ | exact Kd.V_nil _ _ _ _ _ | exact Kd.Q_nil _ _ _ _ _ | exact Kd.S_nil _ _ _ _ _⟩, ⟨by (with_reducible repeat (first | refine kQN ?_ _ | refine kQD ?_ | refine kQA ?_ _)); exact BK387.out⟩, ⟨by (with_reducible repeat (first | refine kQN ?_ _ | refine kQD ?_ | refine kQA ?_ _)); exact BK388.out⟩, ⟨by repeat (first | (with_reducible first | exact HI0.out | apply IsS90.alloc | apply IsS90.drewN | apply IsS90.drew | apply IsS90.set_1 | apply IsS90.set_2 | refine IsS90.far ?_ NB0_387.out _ | refine IsS90.far ?_ NB0_388.out _) | exact HI0.out)⟩, ⟨by repeat (first | (with_reducible first | exact HK.out | apply KeepBut.set_ | apply keep_drewN | apply keep_drew | apply keep_alloc | refine keep_far ?_ GW387.out _ | refine keep_far ?_ GW388.out _) | exact HK.out)⟩, ⟨by repeat (first | (with_reducible first | exact HB.out | apply bQA | apply bQN | apply bQ1 | refine bQS ?_ (IsS90.ge HI0.out) | refine bQS ?_ GE387.out | refine bQS ?_ GE388.out) | exact HB.out)⟩⟩
 case round =>
  clear H'
  try clear c1
  try clear p2
  try clear c6
  try clear p6
  try clear c7
  try clear c8
  try clear c10
  try clear hcz9_0
  try clear hcz9_1
  try clear hfz9_0
  try clear hfz9_1
  obtain ⟨x8_1, x1001_1, x1002_1, x389001_1, u389001, rfl, HA, HK1, HO_389001, BK387, BK388, HI0, HK, HB⟩ := hrel
  cases gk with
  | zero => exact absurd HA.out (by simp [spec_l02Drawn.l0])
  | succ k1 =>
   have H := HA.out
   clear HA
   simp only [spec_l02Drawn.l0] at H
   by_cases c11 : x8_1 > 0
   ·rw [if_pos c11] at H
    have c11b0 : decide (0 < x8_1) = true := decide_eq_true c11
    clear c11
    obtain ⟨ji12, hji12⟩ : ∃ j_ : Int, (IntKind.u64.wrap (a1)) = j_ := ⟨_, rfl⟩
    replace H : (if 0 ≤ (ji12) then ((spec_l00Src_pick.f s0_0 x1001_1 x1002_1 (shl .i64 1 (ji12))).bind fun bt392 => ((spec_l00Src_one.f s0_0 bt392.2.1 bt392.2.2 3).bind fun bt395 => (if bt395.1 = true then (spec_l02Drawn.j1 k1 a1 x8_1 bt392.1 (decide ((x389001_1.length : Int) > 0)) s0_0 bt395.2.1 bt395.2.2 a1 x389001_1) else (spec_l02Drawn.j1 k1 a1 x8_1 bt392.1 false s0_0 bt395.2.1 bt395.2.2 a1 x389001_1)))) else (none)) = some (r1, r2, r3, r4) := by first | (rw [hji12] at H; exact H) | (simp only [hji12] at H ⊢; exact H)
    by_cases c13 : 0 ≤ (ji12)
    ·rw [if_pos c13] at H
     have c13b0 := eq_true c13
     have c13b1 : decide (0 ≤ (ji12)) = true := decide_eq_true c13
     clear c13
     obtain ⟨ji14, hji14⟩ : ∃ j_ : Int, (shl .i64 1 (ji12)) = j_ := ⟨_, rfl⟩
     replace H : ((spec_l00Src_pick.f s0_0 x1001_1 x1002_1 (ji14)).bind fun bt392 => ((spec_l00Src_one.f s0_0 bt392.2.1 bt392.2.2 3).bind fun bt395 => (if bt395.1 = true then (spec_l02Drawn.j1 k1 a1 x8_1 bt392.1 (decide ((x389001_1.length : Int) > 0)) s0_0 bt395.2.1 bt395.2.2 a1 x389001_1) else (spec_l02Drawn.j1 k1 a1 x8_1 bt392.1 false s0_0 bt395.2.1 bt395.2.2 a1 x389001_1)))) = some (r1, r2, r3, r4) := by first | (rw [hji14] at H; exact H) | (simp only [hji14] at H ⊢; exact H)
     have hji14_ : (IntKind.i64.wrap (1 * 2 ^ min (ji12).toNat 64)) = ji14 := hji14
     have hji14z : (ji12) ≤ 64 → (IntKind.i64.wrap (1 * 2 ^ (ji12).toNat)) = ji14 := shl_small hji14
     have hji14u : (IntKind.i64.wrap (2 ^ min (ji12).toNat 64)) = ji14 := by have h_ := hji14_; rw [Int.one_mul] at h_; exact h_
     have hji14v : (ji12) ≤ 64 → (IntKind.i64.wrap (2 ^ (ji12).toNat)) = ji14 := fun hle_ => by have h_ := hji14z hle_; rw [Int.one_mul] at h_; exact h_
     have hji14y : (wrap64 (1 * 2 ^ min (ji12).toNat 64)) = ji14 := (i64_w _).symm.trans hji14_
     have hji14x : (ji12) ≤ 64 → (wrap64 (1 * 2 ^ (ji12).toNat)) = ji14 := fun h_ => (i64_w _).symm.trans (hji14z h_)
     replace H := Option.bind_eq_some_iff.mp H
     obtain ⟨⟨t392, t393, t394⟩, A150, H⟩ := H
     replace H : ((spec_l00Src_one.f s0_0 t393 t394 3).bind fun bt395 => (if bt395.1 = true then (spec_l02Drawn.j1 k1 a1 x8_1 t392 (decide ((x389001_1.length : Int) > 0)) s0_0 bt395.2.1 bt395.2.2 a1 x389001_1) else (spec_l02Drawn.j1 k1 a1 x8_1 t392 false s0_0 bt395.2.1 bt395.2.2 a1 x389001_1))) = some (r1, r2, r3, r4) := H
     have A15 := Aq.mk A150
     clear A150
     have HC16 := Aq.mk H
     clear H
     go_upto_region 6 with (first | ((with_reducible refine gQc (f := 105) rfl ?_); refine goesL_ (some 24) rfl rfl Try.func105 (by kernel_rfl) rfl #[.pointer (some ⟨g, 0, none⟩), .int .i64 ji14] rfl (by (try simp only [List.map_toArray, List.map_cons, List.map_nil]); first | done | (simp only [hji14]; rfl) | rfl | (simp only [List.length_drop, List.length_take]; rfl)) ?_; (with_reducible refine (spec_l00Src_pick.calls g s0_0 x1001_1 x1002_1 ji14 t392 t393 t394 w0 _ ?side1 ?side2 A15.out).mono ?_); (case side1 => repeat (first | (with_reducible first | exact HI0.out | apply IsS90.alloc | apply IsS90.drewN | apply IsS90.drew | apply IsS90.set_1 | apply IsS90.set_2 | refine IsS90.far ?_ NB0_387.out _ | refine IsS90.far ?_ NB0_388.out _) | exact HI0.out)); (case side2 => repeat (first | (with_reducible first | exact HB.out | apply bQA | apply bQN | apply bQ1 | refine bQS ?_ (IsS90.ge HI0.out) | refine bQS ?_ GE387.out | refine bQS ?_ GE388.out) | exact HB.out)); rintro e w17 ⟨rfl, hi, hb, hk⟩; refine ⟨_, rfl, ?_⟩; have n0_ := Aq.mk (Kd.R_mono (Kd.R_keep (IsS90.apart (show IsS90 w0 _ g s0_0 x1001_1 x1002_1 from by repeat (first | (with_reducible first | exact HI0.out | apply IsS90.alloc | apply IsS90.drewN | apply IsS90.drew | apply IsS90.set_1 | apply IsS90.set_2 | refine IsS90.far ?_ NB0_387.out _ | refine IsS90.far ?_ NB0_388.out _) | exact HI0.out)) (by (with_reducible repeat (first | apply Kd.RqA | apply Kd.RqN | apply Kd.RqD)); exact HO_389001.out) (by decide)) hk (fun _ h => h.2)) (fun _ h => h.1)); have n1_ := Aq.mk (KeepBut.blk hk (g' := gb387) (o := .cells #[.int .i64 0, .slice none 0 0] 26 (0, 0)) (by (with_reducible repeat (first | refine kQN ?_ _ | refine kQD ?_ | refine kQA ?_ _)); exact BK387.out) NB387_0.out (by simp)); have n2_ := Aq.mk (KeepBut.blk hk (g' := gb388) (o := .cells #[.int .i64 a1, u389001] 26 (0, 0)) (by (with_reducible repeat (first | refine kQN ?_ _ | refine kQD ?_ | refine kQA ?_ _)); exact BK388.out) NB388_0.out (by simp)); have n3_ := Aq.mk (KeepBut.trans (by repeat (first | (with_reducible first | exact HK.out | apply KeepBut.set_ | apply keep_drewN | apply keep_drew | apply keep_alloc | refine keep_far ?_ GW387.out _ | refine keep_far ?_ GW388.out _) | exact HK.out)) hk (.inl rfl)); have n4_ := Aq.mk (hb); have n5_ := Aq.mk (hi); clear HO_389001; clear BK387; clear BK388; clear HK; clear HB; clear HI0; have HO_389001 := n0_; have BK387 := n1_; have BK388 := n2_; have HK := n3_; have HB := n4_; have HI0 := n5_; clear n0_ n1_ n2_ n3_ n4_ n5_; (try clear hb); (try clear hb2); (try clear hk); (try clear hi)))
     (try simp only [Act.put, qSa, qSb, qSc])
     go_cut [32] (fun v32 wc => ∃ (kq : Nat) (x32_15 : Bool) (x1001_15 : Int) (x1002_15 : Int), v32 = .bool x32_15 ∧ Aq (spec_l02Drawn.j1 kq a1 x8_1 t392 x32_15 s0_0 x1001_15 x1002_15 a1 x389001_1 = some (r1, r2, r3, r4)) ∧ Aq (kq ≤ k1) ∧ Aq (Kd.R (Kd.int .i64) 2 wc w.heap.size (fun _ => True) u389001 x389001_1) ∧ Aq (wc.heap[gb387]? = some (.cells #[.int .i64 0, (.slice none 0 0)] 26 (0, 0))) ∧ Aq (wc.heap[gb388]? = some (.cells #[.int .i64 a1, u389001] 26 (0, 0))) ∧ Aq (IsS90 w0 wc g s0_0 x1001_15 x1002_15) ∧ Aq (KeepBut w wc g none) ∧ Aq (Below w0.heap.size w0 wc))
     case first =>
      have H := HC16.out
      clear HC16
      replace H := Option.bind_eq_some_iff.mp H
      obtain ⟨⟨t395, t396, t397⟩, A180, H⟩ := H
      replace H : (if t395 = true then (spec_l02Drawn.j1 k1 a1 x8_1 t392 (decide ((x389001_1.length : Int) > 0)) s0_0 t396 t397 a1 x389001_1) else (spec_l02Drawn.j1 k1 a1 x8_1 t392 false s0_0 t396 t397 a1 x389001_1)) = some (r1, r2, r3, r4) := H
      have A18 := Aq.mk A180
      clear A180
      by_cases c19 : t395 = true
      ·subst c19
       have H1 : (spec_l02Drawn.j1 k1 a1 x8_1 t392 (decide ((x389001_1.length : Int) > 0)) s0_0 t396 t397 a1 x389001_1) = some (r1, r2, r3, r4) := by rw [if_pos rfl] at H; exact H
       clear H
       have H := H1
       clear H1
       have H' := Aq.mk H
       clear H
       go_wp2_with (first | ((with_reducible refine gQc (f := 106) rfl ?_); refine goesL_ (some 26) rfl rfl Try.func106 (by kernel_rfl) rfl #[.pointer (some ⟨g, 0, none⟩), .int .i64 3] rfl (by (try simp only [List.map_toArray, List.map_cons, List.map_nil]); first | done | rfl | (simp only [List.length_drop, List.length_take]; rfl)) ?_; (with_reducible refine (spec_l00Src_one.calls g s0_0 t393 t394 3 true t396 t397 w0 _ ?side1 ?side2 A18.out).mono ?_); (case side1 => repeat (first | (with_reducible first | exact HI0.out | apply IsS90.alloc | apply IsS90.drewN | apply IsS90.drew | apply IsS90.set_1 | apply IsS90.set_2 | refine IsS90.far ?_ NB0_387.out _ | refine IsS90.far ?_ NB0_388.out _) | exact HI0.out)); (case side2 => repeat (first | (with_reducible first | exact HB.out | apply bQA | apply bQN | apply bQ1 | refine bQS ?_ (IsS90.ge HI0.out) | refine bQS ?_ GE387.out | refine bQS ?_ GE388.out) | exact HB.out)); rintro e w20 ⟨rfl, hi, hb, hk⟩; refine ⟨_, rfl, ?_⟩; have n0_ := Aq.mk (Kd.R_mono (Kd.R_keep (IsS90.apart (show IsS90 w0 _ g s0_0 t393 t394 from by repeat (first | (with_reducible first | exact HI0.out | apply IsS90.alloc | apply IsS90.drewN | apply IsS90.drew | apply IsS90.set_1 | apply IsS90.set_2 | refine IsS90.far ?_ NB0_387.out _ | refine IsS90.far ?_ NB0_388.out _) | exact HI0.out)) (by (with_reducible repeat (first | apply Kd.RqA | apply Kd.RqN | apply Kd.RqD)); exact HO_389001.out) (by decide)) hk (fun _ h => h.2)) (fun _ h => h.1)); have n1_ := Aq.mk (KeepBut.blk hk (g' := gb387) (o := .cells #[.int .i64 0, .slice none 0 0] 26 (0, 0)) (by (with_reducible repeat (first | refine kQN ?_ _ | refine kQD ?_ | refine kQA ?_ _)); exact BK387.out) NB387_0.out (by simp)); have n2_ := Aq.mk (KeepBut.blk hk (g' := gb388) (o := .cells #[.int .i64 a1, u389001] 26 (0, 0)) (by (with_reducible repeat (first | refine kQN ?_ _ | refine kQD ?_ | refine kQA ?_ _)); exact BK388.out) NB388_0.out (by simp)); have n3_ := Aq.mk (KeepBut.trans (by repeat (first | (with_reducible first | exact HK.out | apply KeepBut.set_ | apply keep_drewN | apply keep_drew | apply keep_alloc | refine keep_far ?_ GW387.out _ | refine keep_far ?_ GW388.out _) | exact HK.out)) hk (.inl rfl)); have n4_ := Aq.mk (hb); have n5_ := Aq.mk (hi); clear HO_389001; clear BK387; clear BK388; clear HK; clear HB; clear HI0; have HO_389001 := n0_; have BK387 := n1_; have BK388 := n2_; have HK := n3_; have HB := n4_; have HI0 := n5_; clear n0_ n1_ n2_ n3_ n4_ n5_; (try clear hb); (try clear hb2); (try clear hk); (try clear hi); have hnb21 := NB388_387.out; have hnc21 := NB387_388.out; have hnb22 := NB388_0.out; have hnc22 := NB0_388.out; have hcz23_0 : w20.cell? ⟨gb388, 0, none⟩ = some (.int .i64 a1) := (kQC BK388.out 0).trans rfl; have hcz23_1 : w20.cell? ⟨gb388, 1, none⟩ = some (u389001) := (kQC BK388.out 1).trans rfl; have hfz23_0 := kQF BK388.out 0; have hfz23_1 := kQF BK388.out 1; obtain ⟨Ao24, co24, eo24⟩ := Kd.R_slice HO_389001.out; subst eo24))
       go_meet
       case rel => exact ⟨_, (decide ((x389001_1.length : Int) > 0)), (t396), (t397), (by first | rfl | (simp; done) | (simp [*]; done)), H', ⟨by have := HK1.out; first | omega | exact Nat.le_refl _⟩, ⟨by (with_reducible repeat (first | apply Kd.RqA | apply Kd.RqN | apply Kd.RqD)); exact HO_389001.out⟩, ⟨by (with_reducible repeat (first | refine kQN ?_ _ | refine kQD ?_ | refine kQA ?_ _)); exact BK387.out⟩, ⟨by (with_reducible repeat (first | refine kQN ?_ _ | refine kQD ?_ | refine kQA ?_ _)); exact BK388.out⟩, ⟨by repeat (first | (with_reducible first | exact HI0.out | apply IsS90.alloc | apply IsS90.drewN | apply IsS90.drew | apply IsS90.set_1 | apply IsS90.set_2 | refine IsS90.far ?_ NB0_387.out _ | refine IsS90.far ?_ NB0_388.out _) | exact HI0.out)⟩, ⟨by repeat (first | (with_reducible first | exact HK.out | apply KeepBut.set_ | apply keep_drewN | apply keep_drew | apply keep_alloc | refine keep_far ?_ GW387.out _ | refine keep_far ?_ GW388.out _) | exact HK.out)⟩, ⟨by repeat (first | (with_reducible first | exact HB.out | apply bQA | apply bQN | apply bQ1 | refine bQS ?_ (IsS90.ge HI0.out) | refine bQS ?_ GE387.out | refine bQS ?_ GE388.out) | exact HB.out)⟩⟩
      ·replace c19 := Bool.eq_false_iff.mpr c19
       subst c19
       have H1 : (spec_l02Drawn.j1 k1 a1 x8_1 t392 false s0_0 t396 t397 a1 x389001_1) = some (r1, r2, r3, r4) := by rw [if_neg (show ¬ (false = true) by decide)] at H; exact H
       clear H
       have H := H1
       clear H1
       have H' := Aq.mk H
       clear H
       go_wp2_with (first | ((with_reducible refine gQc (f := 106) rfl ?_); refine goesL_ (some 26) rfl rfl Try.func106 (by kernel_rfl) rfl #[.pointer (some ⟨g, 0, none⟩), .int .i64 3] rfl (by (try simp only [List.map_toArray, List.map_cons, List.map_nil]); first | done | rfl | (simp only [List.length_drop, List.length_take]; rfl)) ?_; (with_reducible refine (spec_l00Src_one.calls g s0_0 t393 t394 3 false t396 t397 w0 _ ?side1 ?side2 A18.out).mono ?_); (case side1 => repeat (first | (with_reducible first | exact HI0.out | apply IsS90.alloc | apply IsS90.drewN | apply IsS90.drew | apply IsS90.set_1 | apply IsS90.set_2 | refine IsS90.far ?_ NB0_387.out _ | refine IsS90.far ?_ NB0_388.out _) | exact HI0.out)); (case side2 => repeat (first | (with_reducible first | exact HB.out | apply bQA | apply bQN | apply bQ1 | refine bQS ?_ (IsS90.ge HI0.out) | refine bQS ?_ GE387.out | refine bQS ?_ GE388.out) | exact HB.out)); rintro e w25 ⟨rfl, hi, hb, hk⟩; refine ⟨_, rfl, ?_⟩; have n0_ := Aq.mk (Kd.R_mono (Kd.R_keep (IsS90.apart (show IsS90 w0 _ g s0_0 t393 t394 from by repeat (first | (with_reducible first | exact HI0.out | apply IsS90.alloc | apply IsS90.drewN | apply IsS90.drew | apply IsS90.set_1 | apply IsS90.set_2 | refine IsS90.far ?_ NB0_387.out _ | refine IsS90.far ?_ NB0_388.out _) | exact HI0.out)) (by (with_reducible repeat (first | apply Kd.RqA | apply Kd.RqN | apply Kd.RqD)); exact HO_389001.out) (by decide)) hk (fun _ h => h.2)) (fun _ h => h.1)); have n1_ := Aq.mk (KeepBut.blk hk (g' := gb387) (o := .cells #[.int .i64 0, .slice none 0 0] 26 (0, 0)) (by (with_reducible repeat (first | refine kQN ?_ _ | refine kQD ?_ | refine kQA ?_ _)); exact BK387.out) NB387_0.out (by simp)); have n2_ := Aq.mk (KeepBut.blk hk (g' := gb388) (o := .cells #[.int .i64 a1, u389001] 26 (0, 0)) (by (with_reducible repeat (first | refine kQN ?_ _ | refine kQD ?_ | refine kQA ?_ _)); exact BK388.out) NB388_0.out (by simp)); have n3_ := Aq.mk (KeepBut.trans (by repeat (first | (with_reducible first | exact HK.out | apply KeepBut.set_ | apply keep_drewN | apply keep_drew | apply keep_alloc | refine keep_far ?_ GW387.out _ | refine keep_far ?_ GW388.out _) | exact HK.out)) hk (.inl rfl)); have n4_ := Aq.mk (hb); have n5_ := Aq.mk (hi); clear HO_389001; clear BK387; clear BK388; clear HK; clear HB; clear HI0; have HO_389001 := n0_; have BK387 := n1_; have BK388 := n2_; have HK := n3_; have HB := n4_; have HI0 := n5_; clear n0_ n1_ n2_ n3_ n4_ n5_; (try clear hb); (try clear hb2); (try clear hk); (try clear hi)))
       go_meet
       case rel => exact ⟨_, (false), (t396), (t397), (by first | rfl | (simp; done) | (simp [*]; done)), H', ⟨by have := HK1.out; first | omega | exact Nat.le_refl _⟩, ⟨by (with_reducible repeat (first | apply Kd.RqA | apply Kd.RqN | apply Kd.RqD)); exact HO_389001.out⟩, ⟨by (with_reducible repeat (first | refine kQN ?_ _ | refine kQD ?_ | refine kQA ?_ _)); exact BK387.out⟩, ⟨by (with_reducible repeat (first | refine kQN ?_ _ | refine kQD ?_ | refine kQA ?_ _)); exact BK388.out⟩, ⟨by repeat (first | (with_reducible first | exact HI0.out | apply IsS90.alloc | apply IsS90.drewN | apply IsS90.drew | apply IsS90.set_1 | apply IsS90.set_2 | refine IsS90.far ?_ NB0_387.out _ | refine IsS90.far ?_ NB0_388.out _) | exact HI0.out)⟩, ⟨by repeat (first | (with_reducible first | exact HK.out | apply KeepBut.set_ | apply keep_drewN | apply keep_drew | apply keep_alloc | refine keep_far ?_ GW387.out _ | refine keep_far ?_ GW388.out _) | exact HK.out)⟩, ⟨by repeat (first | (with_reducible first | exact HB.out | apply bQA | apply bQN | apply bQ1 | refine bQS ?_ (IsS90.ge HI0.out) | refine bQS ?_ GE387.out | refine bQS ?_ GE388.out) | exact HB.out)⟩⟩
     case rest =>
      clear HC16
      try clear c1
      try clear c2
      try clear p2
      try clear c6
      try clear p6
      try clear c7
      try clear c8
      try clear c10
      try clear c11
      try clear c11b0
      try clear c13
      try clear c13b0
      try clear c13b1
      try clear c19
      try clear c21
      try clear c22
      try clear hcz23_0
      try clear hcz23_1
      try clear hcz9_0
      try clear hcz9_1
      try clear hfz23_0
      try clear hfz23_1
      try clear hfz9_0
      try clear hfz9_1
      try clear p2
      try clear p6
      obtain ⟨kq, x32_15, x1001_15, x1002_15, rfl, HA, HJ15, HO_389001, BK387, BK388, HI0, HK, HB⟩ := hcut
      cases kq with
      | zero => exact absurd HA.out (by simp [spec_l02Drawn.j1])
      | succ kj15 =>
       have H := HA.out
       clear HA
       simp only [spec_l02Drawn.j1] at H
       by_cases c26 : x32_15 = true
       ·subst c26
        have H1 : ((spec_l00Src_pick.f s0_0 x1001_15 x1002_15 (x389001_1.length : Int)).bind fun bt398 => (if 0 ≤ bt398.1 then (if bt398.1 < (x389001_1.length : Int) then ((spec_l00Src_one.f s0_0 bt398.2.1 bt398.2.2 2).bind fun bt402 => (if bt402.1 = true then ((spec_l00Src_pick.f s0_0 bt402.2.1 bt402.2.2 (x389001_1.length : Int)).bind fun bt405 => (if 0 ≤ bt405.1 then (if bt405.1 < (x389001_1.length : Int) then (if x389001_1.length < 17592186044416 then (spec_l02Drawn.l0 kj15 a1 (wrap64 (x8_1 - 1)) s0_0 bt405.2.1 bt405.2.2 a1 (x389001_1 ++ [Go.bits .xor .i64 (rd x389001_1 bt398.1) (rd x389001_1 bt405.1)])) else (none)) else (none)) else (none))) else (if x389001_1.length < 17592186044416 then (spec_l02Drawn.l0 kj15 a1 (wrap64 (x8_1 - 1)) s0_0 bt402.2.1 bt402.2.2 a1 (x389001_1 ++ [rd x389001_1 bt398.1])) else (none)))) else (none)) else (none))) = some (r1, r2, r3, r4) := by rw [if_pos rfl] at H; exact H
        clear H
        have H := H1
        clear H1
        replace H := Option.bind_eq_some_iff.mp H
        obtain ⟨⟨t398, t399, t400⟩, A270, H⟩ := H
        replace H : (if 0 ≤ t398 then (if t398 < (x389001_1.length : Int) then ((spec_l00Src_one.f s0_0 t399 t400 2).bind fun bt402 => (if bt402.1 = true then ((spec_l00Src_pick.f s0_0 bt402.2.1 bt402.2.2 (x389001_1.length : Int)).bind fun bt405 => (if 0 ≤ bt405.1 then (if bt405.1 < (x389001_1.length : Int) then (if x389001_1.length < 17592186044416 then (spec_l02Drawn.l0 kj15 a1 (wrap64 (x8_1 - 1)) s0_0 bt405.2.1 bt405.2.2 a1 (x389001_1 ++ [Go.bits .xor .i64 (rd x389001_1 t398) (rd x389001_1 bt405.1)])) else (none)) else (none)) else (none))) else (if x389001_1.length < 17592186044416 then (spec_l02Drawn.l0 kj15 a1 (wrap64 (x8_1 - 1)) s0_0 bt402.2.1 bt402.2.2 a1 (x389001_1 ++ [rd x389001_1 t398])) else (none)))) else (none)) else (none)) = some (r1, r2, r3, r4) := H
        have A27 := Aq.mk A270
        clear A270
        by_cases c28 : 0 ≤ t398
        ·rw [if_pos c28] at H
         have c28b0 : decide (0 ≤ t398) = true := decide_eq_true c28
         clear c28
         by_cases c29 : t398 < (x389001_1.length : Int)
         ·rw [if_pos c29] at H
          have c29b0 : decide (t398 < (x389001_1.length : Int)) = true := decide_eq_true c29
          clear c29
          replace H := Option.bind_eq_some_iff.mp H
          obtain ⟨⟨t402, t403, t404⟩, A300, H⟩ := H
          replace H : (if t402 = true then ((spec_l00Src_pick.f s0_0 t403 t404 (x389001_1.length : Int)).bind fun bt405 => (if 0 ≤ bt405.1 then (if bt405.1 < (x389001_1.length : Int) then (if x389001_1.length < 17592186044416 then (spec_l02Drawn.l0 kj15 a1 (wrap64 (x8_1 - 1)) s0_0 bt405.2.1 bt405.2.2 a1 (x389001_1 ++ [Go.bits .xor .i64 (rd x389001_1 t398) (rd x389001_1 bt405.1)])) else (none)) else (none)) else (none))) else (if x389001_1.length < 17592186044416 then (spec_l02Drawn.l0 kj15 a1 (wrap64 (x8_1 - 1)) s0_0 t403 t404 a1 (x389001_1 ++ [rd x389001_1 t398])) else (none))) = some (r1, r2, r3, r4) := H
          have A30 := Aq.mk A300
          clear A300
          by_cases c31 : t402 = true
          ·subst c31
           have H1 : ((spec_l00Src_pick.f s0_0 t403 t404 (x389001_1.length : Int)).bind fun bt405 => (if 0 ≤ bt405.1 then (if bt405.1 < (x389001_1.length : Int) then (if x389001_1.length < 17592186044416 then (spec_l02Drawn.l0 kj15 a1 (wrap64 (x8_1 - 1)) s0_0 bt405.2.1 bt405.2.2 a1 (x389001_1 ++ [Go.bits .xor .i64 (rd x389001_1 t398) (rd x389001_1 bt405.1)])) else (none)) else (none)) else (none))) = some (r1, r2, r3, r4) := by rw [if_pos rfl] at H; exact H
           clear H
           have H := H1
           clear H1
           replace H := Option.bind_eq_some_iff.mp H
           obtain ⟨⟨t405, t406, t407⟩, A320, H⟩ := H
           replace H : (if 0 ≤ t405 then (if t405 < (x389001_1.length : Int) then (if x389001_1.length < 17592186044416 then (spec_l02Drawn.l0 kj15 a1 (wrap64 (x8_1 - 1)) s0_0 t406 t407 a1 (x389001_1 ++ [Go.bits .xor .i64 (rd x389001_1 t398) (rd x389001_1 t405)])) else (none)) else (none)) else (none)) = some (r1, r2, r3, r4) := H
           have A32 := Aq.mk A320
           clear A320
           by_cases c33 : 0 ≤ t405
           ·rw [if_pos c33] at H
            have c33b0 : decide (0 ≤ t405) = true := decide_eq_true c33
            clear c33
            by_cases c34 : t405 < (x389001_1.length : Int)
            ·rw [if_pos c34] at H
             have c34b0 : decide (t405 < (x389001_1.length : Int)) = true := decide_eq_true c34
             clear c34
             by_cases c35 : x389001_1.length < 17592186044416
             ·rw [if_pos c35] at H
              have LMc35 := Aq.mk c35
              clear c35
              obtain ⟨y409, hy409⟩ : ∃ y_ : List Int, y_ = (x389001_1 ++ [Go.bits .xor .i64 (rd x389001_1 t398) (rd x389001_1 t405)]) := ⟨_, rfl⟩
              replace H : (spec_l02Drawn.l0 kj15 a1 (wrap64 (x8_1 - 1)) s0_0 t406 t407 a1 y409) = some (r1, r2, r3, r4) := by first | (rw [hy409]; with_reducible exact H) | (have H2_ := (Option.bind_some _ _).symm.trans H; rw [hy409]; with_reducible exact H2_) | (have H2_ := (Option.bind_some _ _).symm.trans H; with_reducible exact H2_) | with_reducible exact H | (rw [hy409]; exact H) | exact H
              have Ny409 := Aq.mk hy409
              clear hy409
              have H' := Aq.mk H
              clear H
              try go_wp2
              have n0_ := Aq.mk (Kd.RqD HO_389001.out)
              have n1_ := Aq.mk (kQD BK387.out)
              have n2_ := Aq.mk (kQD BK388.out)
              have n3_ := Aq.mk (IsS90.drew HI0.out)
              have n4_ := Aq.mk (keep_drew HK.out)
              have n5_ := Aq.mk (bQ1 HB.out)
              clear HO_389001
              clear BK387
              clear BK388
              clear HI0
              clear HK
              clear HB
              have HO_389001 := n0_
              have BK387 := n1_
              have BK388 := n2_
              have HI0 := n3_
              have HK := n4_
              have HB := n5_
              clear n0_ n1_ n2_ n3_ n4_ n5_
              obtain ⟨Ao37, co37, eo37⟩ := Kd.R_slice HO_389001.out
              (first | subst eo37 | (injection eo37 with f1_ f2_ f3_; have f4_ := f1_.symm; have f5_ := f3_.symm; clear f1_ f2_ f3_; subst f4_; subst f5_))
              have p401 : 0 ≤ (t398 : Int) := of_decide_eq_true (by first | (with_reducible assumption) | assumption)
              have q401 : t398 < (x389001_1.length : Int) := of_decide_eq_true (by first | (with_reducible assumption) | assumption)
              obtain ⟨ad401, e401, hx401_0⟩ := Kd.at_int (Kd.R_reads' HO_389001.out).2.2 t398 p401 q401
              cases e401
              replace p401 := eq_true p401
              replace q401 := eq_true q401
              refine start_ (n := 10) (S := fun w' => w'.cell? ⟨gb388, 0, none⟩ = some (.int .i64 a1) ∧ w'.cell? ⟨gb388, 1, none⟩ = some (.slice (some ad401) x389001_1.length co37) ∧ w'.cell? (ad401.add (t398).toNat) = some (.int .i64 (rd x389001_1 t398))) (ds := []) #[false, false, false, false, false, false, false, false, false, false] (by kernel_rfl) rfl rfl ⟨(kQC BK388.out 0).trans rfl, (kQC BK388.out 1).trans rfl, hx401_0⟩ (fun hHeld => ?_); refine with_tabW spec_l02Drawn.tab7 spec_l02Drawn.bits7 (fun HT_ HW_ => ?_)
              generalize wc.drew = w36 at HO_389001 BK387 BK388 HI0 HK HB hx401_0 hHeld ⊢
              refine pure_ (i := 0) (N := some 33) (v := ?_) (a' := ?_) #[true, false, false, false, false, false, false, false, false, false] rfl rfl (any_of HT_.out (by kernel_rfl)) (fun _ _ _ h => h) (Or.inl ⟨by rfl, ?_⟩) ?_ ?_
              rotate_left
              ·intro w'
               go_simp
               with_reducible rfl
              rotate_left
              ·simp only [Act.put, qSa, qSb, qSc, i64_w, i32_w]
               rfl
              refine pure_ (i := 2) (N := some 35) (v := ?_) (a' := ?_) #[true, false, true, false, false, false, false, false, false, false] rfl rfl (any_of HT_.out (by kernel_rfl)) (fun _ _ _ h => h) (Or.inl ⟨by rfl, ?_⟩) ?_ ?_
              rotate_left
              ·intro w'
               go_simp
               with_reducible rfl
              rotate_left
              ·simp only [Act.put, qSa, qSb, qSc, i64_w, i32_w]
               rfl
              refine pure_ (i := 3) (N := some 36) (v := ?_) (a' := ?_) #[true, false, true, true, false, false, false, false, false, false] rfl rfl (any_of HT_.out (by kernel_rfl)) (fun _ _ _ h => h) (Or.inl ⟨by rfl, ?_⟩) ?_ ?_
              rotate_left
              ·intro w'
               go_simp
               with_reducible rfl
              rotate_left
              ·simp only [Act.put, qSa, qSb, qSc, i64_w, i32_w]
               rfl
              refine take_ (i := 1) (N := some 34) (v := ?_) (a' := ?_) #[true, true, true, true, false, false, false, false, false, false] rfl rfl (take_ofW HT_.out HW_.out (by kernel_rfl)) (fun _ _ _ h => h) (Or.inl ⟨by rfl, ?_⟩) hHeld ?_ ?_
              rotate_left
              ·rintro w' ⟨s0, s1, s2⟩
               go_simp
               with_reducible rfl
              rotate_left
              ·simp only [Act.put, qSa, qSb, qSc, i64_w, i32_w]
               rfl
              refine take_ (i := 4) (N := some 37) (v := ?_) (a' := ?_) #[true, true, true, true, true, false, false, false, false, false] rfl rfl (take_ofW HT_.out HW_.out (by kernel_rfl)) (fun _ _ _ h => h) (Or.inl ⟨by rfl, ?_⟩) hHeld ?_ ?_
              rotate_left
              ·rintro w' ⟨s0, s1, s2⟩
               go_simp
               with_reducible rfl
              rotate_left
              ·simp only [Act.put, qSa, qSb, qSc, i64_w, i32_w]
               rfl
              refine pure_ (i := 5) (N := some 38) (v := ?_) (a' := ?_) #[true, true, true, true, true, true, false, false, false, false] rfl rfl (any_of HT_.out (by kernel_rfl)) (fun _ _ _ h => h) (Or.inl ⟨by rfl, ?_⟩) ?_ ?_
              rotate_left
              ·intro w'
               go_simp
               with_reducible rfl
              rotate_left
              ·simp only [Act.put, qSa, qSb, qSc, i64_w, i32_w]
               rfl
              refine one_ (i := 6) (N := some 39) #[true, true, true, true, true, true, true, false, false, false] rfl rfl (one_of HT_.out (by kernel_rfl)) (by decide) (fun K hK => ?_)
              refine goes_ Try.func105 (by kernel_rfl) rfl #[.pointer (some ⟨g, 0, none⟩), .int .i64 (x389001_1.length : Int)] (by rfl) rfl rfl (by (try simp only [List.map_toArray, List.map_cons, List.map_nil]); first | done | rfl | (simp only [List.length_drop, List.length_take]; rfl)) ?_
              with_reducible refine (spec_l00Src_pick.calls g s0_0 x1001_15 x1002_15 (x389001_1.length : Int) t398 t399 t400 w0 _ ?side1 ?side2 A27.out).mono ?_
              (case side1 => repeat (first | (with_reducible first | exact HI0.out | apply IsS90.alloc | apply IsS90.drewN | apply IsS90.drew | apply IsS90.set_1 | apply IsS90.set_2 | refine IsS90.far ?_ NB0_387.out _ | refine IsS90.far ?_ NB0_388.out _) | exact HI0.out))
              (case side2 => repeat (first | (with_reducible first | exact HB.out | apply bQA | apply bQN | apply bQ1 | refine bQS ?_ (IsS90.ge HI0.out) | refine bQS ?_ GE387.out | refine bQS ?_ GE388.out) | exact HB.out))
              rintro e w38 ⟨rfl, hi, hb, hk⟩
              have HS2_ := keep_cell hk (hHeld.2.2) (by first | (rw [add_block]; exact Kd.own_blk (IsS90.own_ne HI0.out HO_389001.out (by decide))) | (show (Addr.add _ _).block ≠ _; rw [add_block]; exact Kd.own_blk (IsS90.own_ne HI0.out HO_389001.out (by decide))) | exact Kd.own_blk (IsS90.own_ne HI0.out HO_389001.out (by decide)))
              refine ⟨_, rfl, ?_⟩
              have n0_ := Aq.mk (Kd.R_mono (Kd.R_keep (IsS90.apart (show IsS90 w0 _ g s0_0 x1001_15 x1002_15 from by repeat (first | (with_reducible first | exact HI0.out | apply IsS90.alloc | apply IsS90.drewN | apply IsS90.drew | apply IsS90.set_1 | apply IsS90.set_2 | refine IsS90.far ?_ NB0_387.out _ | refine IsS90.far ?_ NB0_388.out _) | exact HI0.out)) (by (with_reducible repeat (first | apply Kd.RqA | apply Kd.RqN | apply Kd.RqD)); exact HO_389001.out) (by decide)) hk (fun _ h => h.2)) (fun _ h => h.1))
              have n1_ := Aq.mk (KeepBut.blk hk (g' := gb387) (o := .cells #[.int .i64 0, .slice none 0 0] 26 (0, 0)) (by (with_reducible repeat (first | refine kQN ?_ _ | refine kQD ?_ | refine kQA ?_ _)); exact BK387.out) NB387_0.out (by simp))
              have n2_ := Aq.mk (KeepBut.blk hk (g' := gb388) (o := .cells #[.int .i64 a1, .slice (some ad401) x389001_1.length co37] 26 (0, 0)) (by (with_reducible repeat (first | refine kQN ?_ _ | refine kQD ?_ | refine kQA ?_ _)); exact BK388.out) NB388_0.out (by simp))
              have n3_ := Aq.mk (KeepBut.trans (by repeat (first | (with_reducible first | exact HK.out | apply KeepBut.set_ | apply keep_drewN | apply keep_drew | apply keep_alloc | refine keep_far ?_ GW387.out _ | refine keep_far ?_ GW388.out _) | exact HK.out)) hk (.inl rfl))
              have n4_ := Aq.mk (hb)
              have n5_ := Aq.mk (hi)
              clear HO_389001
              clear BK387
              clear BK388
              clear HK
              clear HB
              clear HI0
              have HO_389001 := n0_
              have BK387 := n1_
              have BK388 := n2_
              have HK := n3_
              have HB := n4_
              have HI0 := n5_
              clear n0_ n1_ n2_ n3_ n4_ n5_
              (try clear hb)
              (try clear hb2)
              (try clear hk)
              (try clear hi)
              refine hK.out _ _ ⟨(kQC BK388.out 0).trans rfl, (kQC BK388.out 1).trans rfl, HS2_⟩ (fun hHeld => ?_)
              clear hK K
              refine norm_ (a' := ?_) ?_ ?_
              rotate_left
              ·show Act.put _ (some 39) _ = _
               simp only [Act.put, qSa, qSb, qSc, i64_w, i32_w]
               rfl
              refine pure_ (i := 7) (N := some 40) (v := ?_) (a' := ?_) #[true, true, true, true, true, true, true, true, false, false] rfl rfl (any_of HT_.out (by kernel_rfl)) (fun _ _ _ h => h) (Or.inl ⟨by rfl, ?_⟩) ?_ ?_
              rotate_left
              ·intro w'
               go_simp
               with_reducible rfl
              rotate_left
              ·simp only [Act.put, qSa, qSb, qSc, i64_w, i32_w]
               rfl
              refine take_ (i := 8) (N := some 41) (v := ?_) (a' := ?_) #[true, true, true, true, true, true, true, true, true, false] rfl rfl (take_ofW HT_.out HW_.out (by kernel_rfl)) (fun _ _ _ h => h) (Or.inl ⟨by rfl, ?_⟩) hHeld ?_ ?_
              rotate_left
              ·rintro w' ⟨s0, s1, s2⟩
               go_simp
               with_reducible rfl
              rotate_left
              ·simp only [Act.put, qSa, qSb, qSc, i64_w, i32_w]
               rfl
              refine pure_ (i := 9) (N := some 9) (v := ?_) (a' := ?_) #[true, true, true, true, true, true, true, true, true, true] rfl rfl (any_of HT_.out (by kernel_rfl)) (fun _ _ _ h => h) (Or.inl ⟨by rfl, ?_⟩) ?_ ?_
              rotate_left
              ·intro w'
               go_simp
               with_reducible rfl
              rotate_left
              ·simp only [Act.put, qSa, qSb, qSc, i64_w, i32_w]
               rfl
              refine done_ (done_of HT_.out (by kernel_rfl)) ?_
              try go_wp2_with (first | ((with_reducible refine gQc (f := 106) rfl ?_); refine goesL_ (some 43) rfl rfl Try.func106 (by kernel_rfl) rfl #[.pointer (some ⟨g, 0, none⟩), .int .i64 2] rfl (by (try simp only [List.map_toArray, List.map_cons, List.map_nil]); first | done | rfl | (simp only [List.length_drop, List.length_take]; rfl)) ?_; (with_reducible refine (spec_l00Src_one.calls g s0_0 t399 t400 2 true t403 t404 w0 _ ?side1 ?side2 A30.out).mono ?_); (case side1 => repeat (first | (with_reducible first | exact HI0.out | apply IsS90.alloc | apply IsS90.drewN | apply IsS90.drew | apply IsS90.set_1 | apply IsS90.set_2 | refine IsS90.far ?_ NB0_387.out _ | refine IsS90.far ?_ NB0_388.out _) | exact HI0.out)); (case side2 => repeat (first | (with_reducible first | exact HB.out | apply bQA | apply bQN | apply bQ1 | refine bQS ?_ (IsS90.ge HI0.out) | refine bQS ?_ GE387.out | refine bQS ?_ GE388.out) | exact HB.out)); rintro e w39 ⟨rfl, hi, hb, hk⟩; refine ⟨_, rfl, ?_⟩; have n0_ := Aq.mk (Kd.R_mono (Kd.R_keep (IsS90.apart (show IsS90 w0 _ g s0_0 t399 t400 from by repeat (first | (with_reducible first | exact HI0.out | apply IsS90.alloc | apply IsS90.drewN | apply IsS90.drew | apply IsS90.set_1 | apply IsS90.set_2 | refine IsS90.far ?_ NB0_387.out _ | refine IsS90.far ?_ NB0_388.out _) | exact HI0.out)) (by (with_reducible repeat (first | apply Kd.RqA | apply Kd.RqN | apply Kd.RqD)); exact HO_389001.out) (by decide)) hk (fun _ h => h.2)) (fun _ h => h.1)); have n1_ := Aq.mk (KeepBut.blk hk (g' := gb387) (o := .cells #[.int .i64 0, .slice none 0 0] 26 (0, 0)) (by (with_reducible repeat (first | refine kQN ?_ _ | refine kQD ?_ | refine kQA ?_ _)); exact BK387.out) NB387_0.out (by simp)); have n2_ := Aq.mk (KeepBut.blk hk (g' := gb388) (o := .cells #[.int .i64 a1, .slice (some ad401) x389001_1.length co37] 26 (0, 0)) (by (with_reducible repeat (first | refine kQN ?_ _ | refine kQD ?_ | refine kQA ?_ _)); exact BK388.out) NB388_0.out (by simp)); have n3_ := Aq.mk (KeepBut.trans (by repeat (first | (with_reducible first | exact HK.out | apply KeepBut.set_ | apply keep_drewN | apply keep_drew | apply keep_alloc | refine keep_far ?_ GW387.out _ | refine keep_far ?_ GW388.out _) | exact HK.out)) hk (.inl rfl)); have n4_ := Aq.mk (hb); have n5_ := Aq.mk (hi); clear HO_389001; clear BK387; clear BK388; clear HK; clear HB; clear HI0; have HO_389001 := n0_; have BK387 := n1_; have BK388 := n2_; have HK := n3_; have HB := n4_; have HI0 := n5_; clear n0_ n1_ n2_ n3_ n4_ n5_; (try clear hb); (try clear hb2); (try clear hk); (try clear hi)))
              have n0_ := Aq.mk (Kd.RqD HO_389001.out)
              have n1_ := Aq.mk (kQD BK387.out)
              have n2_ := Aq.mk (kQD BK388.out)
              have n3_ := Aq.mk (IsS90.drew HI0.out)
              have n4_ := Aq.mk (keep_drew HK.out)
              have n5_ := Aq.mk (bQ1 HB.out)
              clear HO_389001
              clear BK387
              clear BK388
              clear HI0
              clear HK
              clear HB
              have HO_389001 := n0_
              have BK387 := n1_
              have BK388 := n2_
              have HI0 := n3_
              have HK := n4_
              have HB := n5_
              clear n0_ n1_ n2_ n3_ n4_ n5_
              have p408 : 0 ≤ (t405 : Int) := of_decide_eq_true (by first | (with_reducible assumption) | assumption)
              have q408 : t405 < (x389001_1.length : Int) := of_decide_eq_true (by first | (with_reducible assumption) | assumption)
              obtain ⟨ad408, e408, hx408_0⟩ := Kd.at_int (Kd.R_reads' HO_389001.out).2.2 t405 p408 q408
              obtain rfl : ad401 = ad408 := (by injection e408)
              replace p408 := eq_true p408
              replace q408 := eq_true q408
              refine start_ (n := 12) (S := fun w' => w'.cell? ⟨gb388, 0, none⟩ = some (.int .i64 a1) ∧ w'.cell? ⟨gb388, 1, none⟩ = some (.slice (some ad401) x389001_1.length co37) ∧ w'.cell? (ad401.add (t405).toNat) = some (.int .i64 (rd x389001_1 t405))) (ds := []) #[false, false, false, false, false, false, false, false, false, false, false, false] (by kernel_rfl) rfl rfl ⟨(kQC BK388.out 0).trans rfl, (kQC BK388.out 1).trans rfl, hx408_0⟩ (fun hHeld => ?_); refine with_tabW spec_l02Drawn.tab9 spec_l02Drawn.bits9 (fun HT_ HW_ => ?_)
              generalize w39.drew = w40 at HO_389001 BK387 BK388 HI0 HK HB hx408_0 hHeld ⊢
              refine pure_ (i := 0) (N := some 44) (v := ?_) (a' := ?_) #[true, false, false, false, false, false, false, false, false, false, false, false] rfl rfl (any_of HT_.out (by kernel_rfl)) (fun _ _ _ h => h) (Or.inl ⟨by rfl, ?_⟩) ?_ ?_
              rotate_left
              ·intro w'
               go_simp
               with_reducible rfl
              rotate_left
              ·simp only [Act.put, qSa, qSb, qSc, i64_w, i32_w]
               rfl
              refine pure_ (i := 1) (N := some 45) (v := ?_) (a' := ?_) #[true, true, false, false, false, false, false, false, false, false, false, false] rfl rfl (any_of HT_.out (by kernel_rfl)) (fun _ _ _ h => h) (Or.inl ⟨by rfl, ?_⟩) ?_ ?_
              rotate_left
              ·intro w'
               go_simp
               with_reducible rfl
              rotate_left
              ·simp only [Act.put, qSa, qSb, qSc, i64_w, i32_w]
               rfl
              refine pure_ (i := 3) (N := some 47) (v := ?_) (a' := ?_) #[true, true, false, true, false, false, false, false, false, false, false, false] rfl rfl (any_of HT_.out (by kernel_rfl)) (fun _ _ _ h => h) (Or.inl ⟨by rfl, ?_⟩) ?_ ?_
              rotate_left
              ·intro w'
               go_simp
               with_reducible rfl
              rotate_left
              ·simp only [Act.put, qSa, qSb, qSc, i64_w, i32_w]
               rfl
              refine pure_ (i := 4) (N := some 48) (v := ?_) (a' := ?_) #[true, true, false, true, true, false, false, false, false, false, false, false] rfl rfl (any_of HT_.out (by kernel_rfl)) (fun _ _ _ h => h) (Or.inl ⟨by rfl, ?_⟩) ?_ ?_
              rotate_left
              ·intro w'
               go_simp
               with_reducible rfl
              rotate_left
              ·simp only [Act.put, qSa, qSb, qSc, i64_w, i32_w]
               rfl
              refine take_ (i := 2) (N := some 46) (v := ?_) (a' := ?_) #[true, true, true, true, true, false, false, false, false, false, false, false] rfl rfl (take_ofW HT_.out HW_.out (by kernel_rfl)) (fun _ _ _ h => h) (Or.inl ⟨by rfl, ?_⟩) hHeld ?_ ?_
              rotate_left
              ·rintro w' ⟨s0, s1, s2⟩
               go_simp
               with_reducible rfl
              rotate_left
              ·simp only [Act.put, qSa, qSb, qSc, i64_w, i32_w]
               rfl
              refine take_ (i := 5) (N := some 49) (v := ?_) (a' := ?_) #[true, true, true, true, true, true, false, false, false, false, false, false] rfl rfl (take_ofW HT_.out HW_.out (by kernel_rfl)) (fun _ _ _ h => h) (Or.inl ⟨by rfl, ?_⟩) hHeld ?_ ?_
              rotate_left
              ·rintro w' ⟨s0, s1, s2⟩
               go_simp
               with_reducible rfl
              rotate_left
              ·simp only [Act.put, qSa, qSb, qSc, i64_w, i32_w]
               rfl
              refine pure_ (i := 6) (N := some 50) (v := ?_) (a' := ?_) #[true, true, true, true, true, true, true, false, false, false, false, false] rfl rfl (any_of HT_.out (by kernel_rfl)) (fun _ _ _ h => h) (Or.inl ⟨by rfl, ?_⟩) ?_ ?_
              rotate_left
              ·intro w'
               go_simp
               with_reducible rfl
              rotate_left
              ·simp only [Act.put, qSa, qSb, qSc, i64_w, i32_w]
               rfl
              refine one_ (i := 7) (N := some 51) #[true, true, true, true, true, true, true, true, false, false, false, false] rfl rfl (one_of HT_.out (by kernel_rfl)) (by decide) (fun K hK => ?_)
              refine goes_ Try.func105 (by kernel_rfl) rfl #[.pointer (some ⟨g, 0, none⟩), .int .i64 (x389001_1.length : Int)] (by rfl) rfl rfl (by (try simp only [List.map_toArray, List.map_cons, List.map_nil]); first | done | rfl | (simp only [List.length_drop, List.length_take]; rfl)) ?_
              with_reducible refine (spec_l00Src_pick.calls g s0_0 t403 t404 (x389001_1.length : Int) t405 t406 t407 w0 _ ?side1 ?side2 A32.out).mono ?_
              (case side1 => repeat (first | (with_reducible first | exact HI0.out | apply IsS90.alloc | apply IsS90.drewN | apply IsS90.drew | apply IsS90.set_1 | apply IsS90.set_2 | refine IsS90.far ?_ NB0_387.out _ | refine IsS90.far ?_ NB0_388.out _) | exact HI0.out))
              (case side2 => repeat (first | (with_reducible first | exact HB.out | apply bQA | apply bQN | apply bQ1 | refine bQS ?_ (IsS90.ge HI0.out) | refine bQS ?_ GE387.out | refine bQS ?_ GE388.out) | exact HB.out))
              rintro e w41 ⟨rfl, hi, hb, hk⟩
              have HS2_ := keep_cell hk (hHeld.2.2) (by first | (rw [add_block]; exact Kd.own_blk (IsS90.own_ne HI0.out HO_389001.out (by decide))) | (show (Addr.add _ _).block ≠ _; rw [add_block]; exact Kd.own_blk (IsS90.own_ne HI0.out HO_389001.out (by decide))) | exact Kd.own_blk (IsS90.own_ne HI0.out HO_389001.out (by decide)))
              refine ⟨_, rfl, ?_⟩
              have n0_ := Aq.mk (Kd.R_mono (Kd.R_keep (IsS90.apart (show IsS90 w0 _ g s0_0 t403 t404 from by repeat (first | (with_reducible first | exact HI0.out | apply IsS90.alloc | apply IsS90.drewN | apply IsS90.drew | apply IsS90.set_1 | apply IsS90.set_2 | refine IsS90.far ?_ NB0_387.out _ | refine IsS90.far ?_ NB0_388.out _) | exact HI0.out)) (by (with_reducible repeat (first | apply Kd.RqA | apply Kd.RqN | apply Kd.RqD)); exact HO_389001.out) (by decide)) hk (fun _ h => h.2)) (fun _ h => h.1))
              have n1_ := Aq.mk (KeepBut.blk hk (g' := gb387) (o := .cells #[.int .i64 0, .slice none 0 0] 26 (0, 0)) (by (with_reducible repeat (first | refine kQN ?_ _ | refine kQD ?_ | refine kQA ?_ _)); exact BK387.out) NB387_0.out (by simp))
              have n2_ := Aq.mk (KeepBut.blk hk (g' := gb388) (o := .cells #[.int .i64 a1, .slice (some ad401) x389001_1.length co37] 26 (0, 0)) (by (with_reducible repeat (first | refine kQN ?_ _ | refine kQD ?_ | refine kQA ?_ _)); exact BK388.out) NB388_0.out (by simp))
              have n3_ := Aq.mk (KeepBut.trans (by repeat (first | (with_reducible first | exact HK.out | apply KeepBut.set_ | apply keep_drewN | apply keep_drew | apply keep_alloc | refine keep_far ?_ GW387.out _ | refine keep_far ?_ GW388.out _) | exact HK.out)) hk (.inl rfl))
              have n4_ := Aq.mk (hb)
              have n5_ := Aq.mk (hi)
              clear HO_389001
              clear BK387
              clear BK388
              clear HK
              clear HB
              clear HI0
              have HO_389001 := n0_
              have BK387 := n1_
              have BK388 := n2_
              have HK := n3_
              have HB := n4_
              have HI0 := n5_
              clear n0_ n1_ n2_ n3_ n4_ n5_
              (try clear hb)
              (try clear hb2)
              (try clear hk)
              (try clear hi)
              refine hK.out _ _ ⟨(kQC BK388.out 0).trans rfl, (kQC BK388.out 1).trans rfl, HS2_⟩ (fun hHeld => ?_)
              clear hK K
              refine norm_ (a' := ?_) ?_ ?_
              rotate_left
              ·show Act.put _ (some 51) _ = _
               simp only [Act.put, qSa, qSb, qSc, i64_w, i32_w]
               rfl
              refine pure_ (i := 8) (N := some 52) (v := ?_) (a' := ?_) #[true, true, true, true, true, true, true, true, true, false, false, false] rfl rfl (any_of HT_.out (by kernel_rfl)) (fun _ _ _ h => h) (Or.inl ⟨by rfl, ?_⟩) ?_ ?_
              rotate_left
              ·intro w'
               go_simp
               with_reducible rfl
              rotate_left
              ·simp only [Act.put, qSa, qSb, qSc, i64_w, i32_w]
               rfl
              refine take_ (i := 9) (N := some 53) (v := ?_) (a' := ?_) #[true, true, true, true, true, true, true, true, true, true, false, false] rfl rfl (take_ofW HT_.out HW_.out (by kernel_rfl)) (fun _ _ _ h => h) (Or.inl ⟨by rfl, ?_⟩) hHeld ?_ ?_
              rotate_left
              ·rintro w' ⟨s0, s1, s2⟩
               go_simp
               with_reducible rfl
              rotate_left
              ·simp only [Act.put, qSa, qSb, qSc, i64_w, i32_w]
               rfl
              refine pure_ (i := 10) (N := some 54) (v := ?_) (a' := ?_) #[true, true, true, true, true, true, true, true, true, true, true, false] rfl rfl (any_of HT_.out (by kernel_rfl)) (fun _ _ _ h => h) (Or.inl ⟨by rfl, ?_⟩) ?_ ?_
              rotate_left
              ·intro w'
               go_simp
               with_reducible rfl
              rotate_left
              ·simp only [Act.put, qSa, qSb, qSc, i64_w, i32_w]
               rfl
              refine pure_ (i := 11) (N := some 9) (v := ?_) (a' := ?_) #[true, true, true, true, true, true, true, true, true, true, true, true] rfl rfl (any_of HT_.out (by kernel_rfl)) (fun _ _ _ h => h) (Or.inl ⟨by rfl, ?_⟩) ?_ ?_
              rotate_left
              ·intro w'
               go_simp
               with_reducible rfl
              rotate_left
              ·simp only [Act.put, qSa, qSb, qSc, i64_w, i32_w]
               rfl
              refine done_ (done_of HT_.out (by kernel_rfl)) ?_
              have hnb42 := NB388_387.out
              have hnc42 := NB387_388.out
              have hnb43 := NB388_0.out
              have hnc43 := NB0_388.out
              have hcz44_0 : w41.cell? ⟨gb388, 0, none⟩ = some (.int .i64 a1) := (kQC BK388.out 0).trans rfl
              have hcz44_1 : w41.cell? ⟨gb388, 1, none⟩ = some (.slice (some ad401) x389001_1.length co37) := (kQC BK388.out 1).trans rfl
              have hfz44_0 := kQF BK388.out 0
              have hfz44_1 := kQF BK388.out 1
              try go_wp2_with (first | ((with_reducible refine gate_builtin (b := .append) (xs := #[.tmp 56, .tmp 58]) rfl ?_); (try (refine gate_guard (by rfl) ?_; dsimp only)); at_builtin; refine Kd.R_append (Kd.int .i64) w.heap.size rfl (.tmp 56) (.tmp 58) 22 2 (.int .i64 0) 8 rfl Try.underlying22 info2 rfl (by decide) (by omega) (.slice (some ad401) x389001_1.length co37) x389001_1 (Go.bits .xor .i64 (rd x389001_1 t398) (rd x389001_1 t405)) [.int .i64 (Go.bits .xor .i64 (rd x389001_1 t398) (rd x389001_1 t405))] (fun _ => True) (fun _ => False) rfl rfl ?aP (fun _ hk => hk.elim) ?aF ?aO (Below.refl _ _) ?aS ?aL ?_; (case aP => exact rfl); (case aF => exact (fun _ _ => trivial)); (case aO => exact (by (with_reducible repeat (first | apply Kd.RqA | apply Kd.RqN | apply Kd.RqD)); exact HO_389001.out)); (case aS => exact (keep_size (w := w) (g := g) (row := none) (by repeat (first | (with_reducible first | exact HK.out | apply KeepBut.set_ | apply keep_drewN | apply keep_drew | apply keep_alloc | refine keep_far ?_ GW387.out _ | refine keep_far ?_ GW388.out _) | exact HK.out)))); (case aL => have := LMc35.out; omega); intro v410 w45 ho hb hg hat; rw [← Ny409.out] at ho; have n0_ := Aq.mk (blk_grown (g := gb387) (o := .cells #[.int .i64 0, .slice none 0 0] 26 (0, 0)) (by (with_reducible repeat (first | refine kQN ?_ _ | refine kQD ?_ | refine kQA ?_ _)); exact BK387.out) hg (Kd.R_ne HO_389001.out BK387.out (by decide))); have n1_ := Aq.mk (blk_grown (g := gb388) (o := .cells #[.int .i64 a1, .slice (some ad401) x389001_1.length co37] 26 (0, 0)) (by (with_reducible repeat (first | refine kQN ?_ _ | refine kQD ?_ | refine kQA ?_ _)); exact BK388.out) hg (Kd.R_ne HO_389001.out BK388.out (by decide))); have n2_ := Aq.mk (IsS90.grown (by repeat (first | (with_reducible first | exact HI0.out | apply IsS90.alloc | apply IsS90.drewN | apply IsS90.drew | apply IsS90.set_1 | apply IsS90.set_2 | refine IsS90.far ?_ NB0_387.out _ | refine IsS90.far ?_ NB0_388.out _) | exact HI0.out)) hg (IsS90.own_ne HI0.out HO_389001.out (by decide))); have n3_ := Aq.mk (below_weaken (by repeat (first | (with_reducible first | exact HB.out | apply bQA | apply bQN | apply bQ1 | refine bQS ?_ (IsS90.ge HI0.out) | refine bQS ?_ GE387.out | refine bQS ?_ GE388.out) | exact HB.out)) HL.out hb); have n4_ := Aq.mk (KeepBut.trans (by repeat (first | (with_reducible first | exact HK.out | apply KeepBut.set_ | apply keep_drewN | apply keep_drew | apply keep_alloc | refine keep_far ?_ GW387.out _ | refine keep_far ?_ GW388.out _) | exact HK.out)) (KeepBut.of_grown hg g) (Kd.R_base2 HO_389001.out)); have n5_ := Aq.mk (ho); clear BK387; clear BK388; clear HI0; clear HB; clear HK; clear HO_389001; have BK387 := n0_; have BK388 := n1_; have HI0 := n2_; have HB := n3_; have HK := n4_; have HO411 := n5_; clear n0_ n1_ n2_ n3_ n4_ n5_; clear ho hb hg hat; obtain ⟨Ao46, co46, eo46⟩ := Kd.R_slice HO411.out; subst eo46; have hcz47_0 : w45.cell? ⟨gb388, 0, none⟩ = some (.int .i64 a1) := (kQC BK388.out 0).trans rfl; have hcz47_1 : w45.cell? ⟨gb388, 1, none⟩ = some (.slice (some ad401) x389001_1.length co37) := (kQC BK388.out 1).trans rfl; have hfz47_0 := kQF BK388.out 0; have hfz47_1 := kQF BK388.out 1))
              go_roundg kj15
              case measure => have := HK1.out; have := HJ15.out; omega
              case rel => exact ⟨(wrap64 (x8_1 - 1)), (t406), (t407), (y409), (.slice Ao46 y409.length co46), (by first | rfl | (simp; done) | (simp [*]; done)), H', ⟨by have := HK1.out; have := HJ15.out; omega⟩, ⟨by (with_reducible repeat (first | apply Kd.RqA | apply Kd.RqN | apply Kd.RqD)); exact Kd.R_mono (Kd.R_far (p := ⟨gb388, 1, none⟩) (Kd.R_types HO411.out BK388.out (by decide)) (fun _ hk => hk.2) (.slice Ao46 y409.length co46)) (fun _ hk => trivial)⟩, ⟨by (with_reducible repeat (first | refine kQN ?_ _ | refine kQD ?_ | refine kQA ?_ _)); refine kQR ?_ NB387_388.out _; (with_reducible repeat (first | refine kQN ?_ _ | refine kQD ?_ | refine kQA ?_ _)); exact BK387.out⟩, ⟨by (with_reducible repeat (first | refine kQN ?_ _ | refine kQD ?_ | refine kQA ?_ _)); refine kQP (cs := #[.int .i64 a1, .slice (some ad401) x389001_1.length co37]) ?_ 1 _ rfl; (with_reducible repeat (first | refine kQN ?_ _ | refine kQD ?_ | refine kQA ?_ _)); exact BK388.out⟩, ⟨by repeat (first | (with_reducible first | exact HI0.out | apply IsS90.alloc | apply IsS90.drewN | apply IsS90.drew | apply IsS90.set_1 | apply IsS90.set_2 | refine IsS90.far ?_ NB0_387.out _ | refine IsS90.far ?_ NB0_388.out _) | exact HI0.out)⟩, ⟨by repeat (first | (with_reducible first | exact HK.out | apply KeepBut.set_ | apply keep_drewN | apply keep_drew | apply keep_alloc | refine keep_far ?_ GW387.out _ | refine keep_far ?_ GW388.out _) | exact HK.out)⟩, ⟨by repeat (first | (with_reducible first | exact HB.out | apply bQA | apply bQN | apply bQ1 | refine bQS ?_ (IsS90.ge HI0.out) | refine bQS ?_ GE387.out | refine bQS ?_ GE388.out) | exact HB.out)⟩⟩
             ·rw [if_neg c35] at H
              exact absurd H (by simp)
            ·rw [if_neg c34] at H
             exact absurd H (by simp)
           ·rw [if_neg c33] at H
            exact absurd H (by simp)
          ·replace c31 := Bool.eq_false_iff.mpr c31
           subst c31
           have H1 : (if x389001_1.length < 17592186044416 then (spec_l02Drawn.l0 kj15 a1 (wrap64 (x8_1 - 1)) s0_0 t403 t404 a1 (x389001_1 ++ [rd x389001_1 t398])) else (none)) = some (r1, r2, r3, r4) := by rw [if_neg (show ¬ (false = true) by decide)] at H; exact H
           clear H
           have H := H1
           clear H1
           by_cases c48 : x389001_1.length < 17592186044416
           ·rw [if_pos c48] at H
            have LMc48 := Aq.mk c48
            clear c48
            obtain ⟨y412, hy412⟩ : ∃ y_ : List Int, y_ = (x389001_1 ++ [rd x389001_1 t398]) := ⟨_, rfl⟩
            replace H : (spec_l02Drawn.l0 kj15 a1 (wrap64 (x8_1 - 1)) s0_0 t403 t404 a1 y412) = some (r1, r2, r3, r4) := by first | (rw [hy412]; with_reducible exact H) | (have H2_ := (Option.bind_some _ _).symm.trans H; rw [hy412]; with_reducible exact H2_) | (have H2_ := (Option.bind_some _ _).symm.trans H; with_reducible exact H2_) | with_reducible exact H | (rw [hy412]; exact H) | exact H
            have Ny412 := Aq.mk hy412
            clear hy412
            have H' := Aq.mk H
            clear H
            try go_wp2
            have n0_ := Aq.mk (Kd.RqD HO_389001.out)
            have n1_ := Aq.mk (kQD BK387.out)
            have n2_ := Aq.mk (kQD BK388.out)
            have n3_ := Aq.mk (IsS90.drew HI0.out)
            have n4_ := Aq.mk (keep_drew HK.out)
            have n5_ := Aq.mk (bQ1 HB.out)
            clear HO_389001
            clear BK387
            clear BK388
            clear HI0
            clear HK
            clear HB
            have HO_389001 := n0_
            have BK387 := n1_
            have BK388 := n2_
            have HI0 := n3_
            have HK := n4_
            have HB := n5_
            clear n0_ n1_ n2_ n3_ n4_ n5_
            obtain ⟨Ao50, co50, eo50⟩ := Kd.R_slice HO_389001.out
            (first | subst eo50 | (injection eo50 with f1_ f2_ f3_; have f4_ := f1_.symm; have f5_ := f3_.symm; clear f1_ f2_ f3_; subst f4_; subst f5_))
            have p401 : 0 ≤ (t398 : Int) := of_decide_eq_true (by first | (with_reducible assumption) | assumption)
            have q401 : t398 < (x389001_1.length : Int) := of_decide_eq_true (by first | (with_reducible assumption) | assumption)
            obtain ⟨ad401, e401, hx401_0⟩ := Kd.at_int (Kd.R_reads' HO_389001.out).2.2 t398 p401 q401
            cases e401
            replace p401 := eq_true p401
            replace q401 := eq_true q401
            refine start_ (n := 10) (S := fun w' => w'.cell? ⟨gb388, 0, none⟩ = some (.int .i64 a1) ∧ w'.cell? ⟨gb388, 1, none⟩ = some (.slice (some ad401) x389001_1.length co50) ∧ w'.cell? (ad401.add (t398).toNat) = some (.int .i64 (rd x389001_1 t398))) (ds := []) #[false, false, false, false, false, false, false, false, false, false] (by kernel_rfl) rfl rfl ⟨(kQC BK388.out 0).trans rfl, (kQC BK388.out 1).trans rfl, hx401_0⟩ (fun hHeld => ?_); refine with_tabW spec_l02Drawn.tab7 spec_l02Drawn.bits7 (fun HT_ HW_ => ?_)
            generalize wc.drew = w49 at HO_389001 BK387 BK388 HI0 HK HB hx401_0 hHeld ⊢
            refine pure_ (i := 0) (N := some 33) (v := ?_) (a' := ?_) #[true, false, false, false, false, false, false, false, false, false] rfl rfl (any_of HT_.out (by kernel_rfl)) (fun _ _ _ h => h) (Or.inl ⟨by rfl, ?_⟩) ?_ ?_
            rotate_left
            ·intro w'
             go_simp
             with_reducible rfl
            rotate_left
            ·simp only [Act.put, qSa, qSb, qSc, i64_w, i32_w]
             rfl
            refine pure_ (i := 2) (N := some 35) (v := ?_) (a' := ?_) #[true, false, true, false, false, false, false, false, false, false] rfl rfl (any_of HT_.out (by kernel_rfl)) (fun _ _ _ h => h) (Or.inl ⟨by rfl, ?_⟩) ?_ ?_
            rotate_left
            ·intro w'
             go_simp
             with_reducible rfl
            rotate_left
            ·simp only [Act.put, qSa, qSb, qSc, i64_w, i32_w]
             rfl
            refine pure_ (i := 3) (N := some 36) (v := ?_) (a' := ?_) #[true, false, true, true, false, false, false, false, false, false] rfl rfl (any_of HT_.out (by kernel_rfl)) (fun _ _ _ h => h) (Or.inl ⟨by rfl, ?_⟩) ?_ ?_
            rotate_left
            ·intro w'
             go_simp
             with_reducible rfl
            rotate_left
            ·simp only [Act.put, qSa, qSb, qSc, i64_w, i32_w]
             rfl
            refine take_ (i := 1) (N := some 34) (v := ?_) (a' := ?_) #[true, true, true, true, false, false, false, false, false, false] rfl rfl (take_ofW HT_.out HW_.out (by kernel_rfl)) (fun _ _ _ h => h) (Or.inl ⟨by rfl, ?_⟩) hHeld ?_ ?_
            rotate_left
            ·rintro w' ⟨s0, s1, s2⟩
             go_simp
             with_reducible rfl
            rotate_left
            ·simp only [Act.put, qSa, qSb, qSc, i64_w, i32_w]
             rfl
            refine take_ (i := 4) (N := some 37) (v := ?_) (a' := ?_) #[true, true, true, true, true, false, false, false, false, false] rfl rfl (take_ofW HT_.out HW_.out (by kernel_rfl)) (fun _ _ _ h => h) (Or.inl ⟨by rfl, ?_⟩) hHeld ?_ ?_
            rotate_left
            ·rintro w' ⟨s0, s1, s2⟩
             go_simp
             with_reducible rfl
            rotate_left
            ·simp only [Act.put, qSa, qSb, qSc, i64_w, i32_w]
             rfl
            refine pure_ (i := 5) (N := some 38) (v := ?_) (a' := ?_) #[true, true, true, true, true, true, false, false, false, false] rfl rfl (any_of HT_.out (by kernel_rfl)) (fun _ _ _ h => h) (Or.inl ⟨by rfl, ?_⟩) ?_ ?_
            rotate_left
            ·intro w'
             go_simp
             with_reducible rfl
            rotate_left
            ·simp only [Act.put, qSa, qSb, qSc, i64_w, i32_w]
             rfl
            refine one_ (i := 6) (N := some 39) #[true, true, true, true, true, true, true, false, false, false] rfl rfl (one_of HT_.out (by kernel_rfl)) (by decide) (fun K hK => ?_)
            refine goes_ Try.func105 (by kernel_rfl) rfl #[.pointer (some ⟨g, 0, none⟩), .int .i64 (x389001_1.length : Int)] (by rfl) rfl rfl (by (try simp only [List.map_toArray, List.map_cons, List.map_nil]); first | done | rfl | (simp only [List.length_drop, List.length_take]; rfl)) ?_
            with_reducible refine (spec_l00Src_pick.calls g s0_0 x1001_15 x1002_15 (x389001_1.length : Int) t398 t399 t400 w0 _ ?side1 ?side2 A27.out).mono ?_
            (case side1 => repeat (first | (with_reducible first | exact HI0.out | apply IsS90.alloc | apply IsS90.drewN | apply IsS90.drew | apply IsS90.set_1 | apply IsS90.set_2 | refine IsS90.far ?_ NB0_387.out _ | refine IsS90.far ?_ NB0_388.out _) | exact HI0.out))
            (case side2 => repeat (first | (with_reducible first | exact HB.out | apply bQA | apply bQN | apply bQ1 | refine bQS ?_ (IsS90.ge HI0.out) | refine bQS ?_ GE387.out | refine bQS ?_ GE388.out) | exact HB.out))
            rintro e w51 ⟨rfl, hi, hb, hk⟩
            have HS2_ := keep_cell hk (hHeld.2.2) (by first | (rw [add_block]; exact Kd.own_blk (IsS90.own_ne HI0.out HO_389001.out (by decide))) | (show (Addr.add _ _).block ≠ _; rw [add_block]; exact Kd.own_blk (IsS90.own_ne HI0.out HO_389001.out (by decide))) | exact Kd.own_blk (IsS90.own_ne HI0.out HO_389001.out (by decide)))
            refine ⟨_, rfl, ?_⟩
            have n0_ := Aq.mk (Kd.R_mono (Kd.R_keep (IsS90.apart (show IsS90 w0 _ g s0_0 x1001_15 x1002_15 from by repeat (first | (with_reducible first | exact HI0.out | apply IsS90.alloc | apply IsS90.drewN | apply IsS90.drew | apply IsS90.set_1 | apply IsS90.set_2 | refine IsS90.far ?_ NB0_387.out _ | refine IsS90.far ?_ NB0_388.out _) | exact HI0.out)) (by (with_reducible repeat (first | apply Kd.RqA | apply Kd.RqN | apply Kd.RqD)); exact HO_389001.out) (by decide)) hk (fun _ h => h.2)) (fun _ h => h.1))
            have n1_ := Aq.mk (KeepBut.blk hk (g' := gb387) (o := .cells #[.int .i64 0, .slice none 0 0] 26 (0, 0)) (by (with_reducible repeat (first | refine kQN ?_ _ | refine kQD ?_ | refine kQA ?_ _)); exact BK387.out) NB387_0.out (by simp))
            have n2_ := Aq.mk (KeepBut.blk hk (g' := gb388) (o := .cells #[.int .i64 a1, .slice (some ad401) x389001_1.length co50] 26 (0, 0)) (by (with_reducible repeat (first | refine kQN ?_ _ | refine kQD ?_ | refine kQA ?_ _)); exact BK388.out) NB388_0.out (by simp))
            have n3_ := Aq.mk (KeepBut.trans (by repeat (first | (with_reducible first | exact HK.out | apply KeepBut.set_ | apply keep_drewN | apply keep_drew | apply keep_alloc | refine keep_far ?_ GW387.out _ | refine keep_far ?_ GW388.out _) | exact HK.out)) hk (.inl rfl))
            have n4_ := Aq.mk (hb)
            have n5_ := Aq.mk (hi)
            clear HO_389001
            clear BK387
            clear BK388
            clear HK
            clear HB
            clear HI0
            have HO_389001 := n0_
            have BK387 := n1_
            have BK388 := n2_
            have HK := n3_
            have HB := n4_
            have HI0 := n5_
            clear n0_ n1_ n2_ n3_ n4_ n5_
            (try clear hb)
            (try clear hb2)
            (try clear hk)
            (try clear hi)
            refine hK.out _ _ ⟨(kQC BK388.out 0).trans rfl, (kQC BK388.out 1).trans rfl, HS2_⟩ (fun hHeld => ?_)
            clear hK K
            refine norm_ (a' := ?_) ?_ ?_
            rotate_left
            ·show Act.put _ (some 39) _ = _
             simp only [Act.put, qSa, qSb, qSc, i64_w, i32_w]
             rfl
            refine pure_ (i := 7) (N := some 40) (v := ?_) (a' := ?_) #[true, true, true, true, true, true, true, true, false, false] rfl rfl (any_of HT_.out (by kernel_rfl)) (fun _ _ _ h => h) (Or.inl ⟨by rfl, ?_⟩) ?_ ?_
            rotate_left
            ·intro w'
             go_simp
             with_reducible rfl
            rotate_left
            ·simp only [Act.put, qSa, qSb, qSc, i64_w, i32_w]
             rfl
            refine take_ (i := 8) (N := some 41) (v := ?_) (a' := ?_) #[true, true, true, true, true, true, true, true, true, false] rfl rfl (take_ofW HT_.out HW_.out (by kernel_rfl)) (fun _ _ _ h => h) (Or.inl ⟨by rfl, ?_⟩) hHeld ?_ ?_
            rotate_left
            ·rintro w' ⟨s0, s1, s2⟩
             go_simp
             with_reducible rfl
            rotate_left
            ·simp only [Act.put, qSa, qSb, qSc, i64_w, i32_w]
             rfl
            refine pure_ (i := 9) (N := some 9) (v := ?_) (a' := ?_) #[true, true, true, true, true, true, true, true, true, true] rfl rfl (any_of HT_.out (by kernel_rfl)) (fun _ _ _ h => h) (Or.inl ⟨by rfl, ?_⟩) ?_ ?_
            rotate_left
            ·intro w'
             go_simp
             with_reducible rfl
            rotate_left
            ·simp only [Act.put, qSa, qSb, qSc, i64_w, i32_w]
             rfl
            refine done_ (done_of HT_.out (by kernel_rfl)) ?_
            try go_wp2_with (first | ((with_reducible refine gQc (f := 106) rfl ?_); refine goesL_ (some 43) rfl rfl Try.func106 (by kernel_rfl) rfl #[.pointer (some ⟨g, 0, none⟩), .int .i64 2] rfl (by (try simp only [List.map_toArray, List.map_cons, List.map_nil]); first | done | rfl | (simp only [List.length_drop, List.length_take]; rfl)) ?_; (with_reducible refine (spec_l00Src_one.calls g s0_0 t399 t400 2 false t403 t404 w0 _ ?side1 ?side2 A30.out).mono ?_); (case side1 => repeat (first | (with_reducible first | exact HI0.out | apply IsS90.alloc | apply IsS90.drewN | apply IsS90.drew | apply IsS90.set_1 | apply IsS90.set_2 | refine IsS90.far ?_ NB0_387.out _ | refine IsS90.far ?_ NB0_388.out _) | exact HI0.out)); (case side2 => repeat (first | (with_reducible first | exact HB.out | apply bQA | apply bQN | apply bQ1 | refine bQS ?_ (IsS90.ge HI0.out) | refine bQS ?_ GE387.out | refine bQS ?_ GE388.out) | exact HB.out)); rintro e w52 ⟨rfl, hi, hb, hk⟩; refine ⟨_, rfl, ?_⟩; have n0_ := Aq.mk (Kd.R_mono (Kd.R_keep (IsS90.apart (show IsS90 w0 _ g s0_0 t399 t400 from by repeat (first | (with_reducible first | exact HI0.out | apply IsS90.alloc | apply IsS90.drewN | apply IsS90.drew | apply IsS90.set_1 | apply IsS90.set_2 | refine IsS90.far ?_ NB0_387.out _ | refine IsS90.far ?_ NB0_388.out _) | exact HI0.out)) (by (with_reducible repeat (first | apply Kd.RqA | apply Kd.RqN | apply Kd.RqD)); exact HO_389001.out) (by decide)) hk (fun _ h => h.2)) (fun _ h => h.1)); have n1_ := Aq.mk (KeepBut.blk hk (g' := gb387) (o := .cells #[.int .i64 0, .slice none 0 0] 26 (0, 0)) (by (with_reducible repeat (first | refine kQN ?_ _ | refine kQD ?_ | refine kQA ?_ _)); exact BK387.out) NB387_0.out (by simp)); have n2_ := Aq.mk (KeepBut.blk hk (g' := gb388) (o := .cells #[.int .i64 a1, .slice (some ad401) x389001_1.length co50] 26 (0, 0)) (by (with_reducible repeat (first | refine kQN ?_ _ | refine kQD ?_ | refine kQA ?_ _)); exact BK388.out) NB388_0.out (by simp)); have n3_ := Aq.mk (KeepBut.trans (by repeat (first | (with_reducible first | exact HK.out | apply KeepBut.set_ | apply keep_drewN | apply keep_drew | apply keep_alloc | refine keep_far ?_ GW387.out _ | refine keep_far ?_ GW388.out _) | exact HK.out)) hk (.inl rfl)); have n4_ := Aq.mk (hb); have n5_ := Aq.mk (hi); clear HO_389001; clear BK387; clear BK388; clear HK; clear HB; clear HI0; have HO_389001 := n0_; have BK387 := n1_; have BK388 := n2_; have HK := n3_; have HB := n4_; have HI0 := n5_; clear n0_ n1_ n2_ n3_ n4_ n5_; (try clear hb); (try clear hb2); (try clear hk); (try clear hi); have hnb53 := NB388_387.out; have hnc53 := NB387_388.out; have hnb54 := NB388_0.out; have hnc54 := NB0_388.out; have hcz55_0 : w52.cell? ⟨gb388, 0, none⟩ = some (.int .i64 a1) := (kQC BK388.out 0).trans rfl; have hcz55_1 : w52.cell? ⟨gb388, 1, none⟩ = some (.slice (some ad401) x389001_1.length co50) := (kQC BK388.out 1).trans rfl; have hfz55_0 := kQF BK388.out 0; have hfz55_1 := kQF BK388.out 1) | ((with_reducible refine gate_builtin (b := .append) (xs := #[.tmp 56, .tmp 58]) rfl ?_); (try (refine gate_guard (by rfl) ?_; dsimp only)); at_builtin; refine Kd.R_append (Kd.int .i64) w.heap.size rfl (.tmp 56) (.tmp 58) 22 2 (.int .i64 0) 8 rfl Try.underlying22 info2 rfl (by decide) (by omega) (.slice (some ad401) x389001_1.length co50) x389001_1 (rd x389001_1 t398) [.int .i64 (rd x389001_1 t398)] (fun _ => True) (fun _ => False) rfl rfl ?aP (fun _ hk => hk.elim) ?aF ?aO (Below.refl _ _) ?aS ?aL ?_; (case aP => exact rfl); (case aF => exact (fun _ _ => trivial)); (case aO => exact (by (with_reducible repeat (first | apply Kd.RqA | apply Kd.RqN | apply Kd.RqD)); exact HO_389001.out)); (case aS => exact (keep_size (w := w) (g := g) (row := none) (by repeat (first | (with_reducible first | exact HK.out | apply KeepBut.set_ | apply keep_drewN | apply keep_drew | apply keep_alloc | refine keep_far ?_ GW387.out _ | refine keep_far ?_ GW388.out _) | exact HK.out)))); (case aL => have := LMc48.out; omega); intro v413 w56 ho hb hg hat; rw [← Ny412.out] at ho; have n0_ := Aq.mk (blk_grown (g := gb387) (o := .cells #[.int .i64 0, .slice none 0 0] 26 (0, 0)) (by (with_reducible repeat (first | refine kQN ?_ _ | refine kQD ?_ | refine kQA ?_ _)); exact BK387.out) hg (Kd.R_ne HO_389001.out BK387.out (by decide))); have n1_ := Aq.mk (blk_grown (g := gb388) (o := .cells #[.int .i64 a1, .slice (some ad401) x389001_1.length co50] 26 (0, 0)) (by (with_reducible repeat (first | refine kQN ?_ _ | refine kQD ?_ | refine kQA ?_ _)); exact BK388.out) hg (Kd.R_ne HO_389001.out BK388.out (by decide))); have n2_ := Aq.mk (IsS90.grown (by repeat (first | (with_reducible first | exact HI0.out | apply IsS90.alloc | apply IsS90.drewN | apply IsS90.drew | apply IsS90.set_1 | apply IsS90.set_2 | refine IsS90.far ?_ NB0_387.out _ | refine IsS90.far ?_ NB0_388.out _) | exact HI0.out)) hg (IsS90.own_ne HI0.out HO_389001.out (by decide))); have n3_ := Aq.mk (below_weaken (by repeat (first | (with_reducible first | exact HB.out | apply bQA | apply bQN | apply bQ1 | refine bQS ?_ (IsS90.ge HI0.out) | refine bQS ?_ GE387.out | refine bQS ?_ GE388.out) | exact HB.out)) HL.out hb); have n4_ := Aq.mk (KeepBut.trans (by repeat (first | (with_reducible first | exact HK.out | apply KeepBut.set_ | apply keep_drewN | apply keep_drew | apply keep_alloc | refine keep_far ?_ GW387.out _ | refine keep_far ?_ GW388.out _) | exact HK.out)) (KeepBut.of_grown hg g) (Kd.R_base2 HO_389001.out)); have n5_ := Aq.mk (ho); clear BK387; clear BK388; clear HI0; clear HB; clear HK; clear HO_389001; have BK387 := n0_; have BK388 := n1_; have HI0 := n2_; have HB := n3_; have HK := n4_; have HO414 := n5_; clear n0_ n1_ n2_ n3_ n4_ n5_; clear ho hb hg hat; obtain ⟨Ao57, co57, eo57⟩ := Kd.R_slice HO414.out; subst eo57; have hcz58_0 : w56.cell? ⟨gb388, 0, none⟩ = some (.int .i64 a1) := (kQC BK388.out 0).trans rfl; have hcz58_1 : w56.cell? ⟨gb388, 1, none⟩ = some (.slice (some ad401) x389001_1.length co50) := (kQC BK388.out 1).trans rfl; have hfz58_0 := kQF BK388.out 0; have hfz58_1 := kQF BK388.out 1))
            go_roundg kj15
            case measure => have := HK1.out; have := HJ15.out; omega
            case rel => exact ⟨(wrap64 (x8_1 - 1)), (t403), (t404), (y412), (.slice Ao57 y412.length co57), (by first | rfl | (simp; done) | (simp [*]; done)), H', ⟨by have := HK1.out; have := HJ15.out; omega⟩, ⟨by (with_reducible repeat (first | apply Kd.RqA | apply Kd.RqN | apply Kd.RqD)); exact Kd.R_mono (Kd.R_far (p := ⟨gb388, 1, none⟩) (Kd.R_types HO414.out BK388.out (by decide)) (fun _ hk => hk.2) (.slice Ao57 y412.length co57)) (fun _ hk => trivial)⟩, ⟨by (with_reducible repeat (first | refine kQN ?_ _ | refine kQD ?_ | refine kQA ?_ _)); refine kQR ?_ NB387_388.out _; (with_reducible repeat (first | refine kQN ?_ _ | refine kQD ?_ | refine kQA ?_ _)); exact BK387.out⟩, ⟨by (with_reducible repeat (first | refine kQN ?_ _ | refine kQD ?_ | refine kQA ?_ _)); refine kQP (cs := #[.int .i64 a1, .slice (some ad401) x389001_1.length co50]) ?_ 1 _ rfl; (with_reducible repeat (first | refine kQN ?_ _ | refine kQD ?_ | refine kQA ?_ _)); exact BK388.out⟩, ⟨by repeat (first | (with_reducible first | exact HI0.out | apply IsS90.alloc | apply IsS90.drewN | apply IsS90.drew | apply IsS90.set_1 | apply IsS90.set_2 | refine IsS90.far ?_ NB0_387.out _ | refine IsS90.far ?_ NB0_388.out _) | exact HI0.out)⟩, ⟨by repeat (first | (with_reducible first | exact HK.out | apply KeepBut.set_ | apply keep_drewN | apply keep_drew | apply keep_alloc | refine keep_far ?_ GW387.out _ | refine keep_far ?_ GW388.out _) | exact HK.out)⟩, ⟨by repeat (first | (with_reducible first | exact HB.out | apply bQA | apply bQN | apply bQ1 | refine bQS ?_ (IsS90.ge HI0.out) | refine bQS ?_ GE387.out | refine bQS ?_ GE388.out) | exact HB.out)⟩⟩
           ·rw [if_neg c48] at H
            exact absurd H (by simp)
         ·rw [if_neg c29] at H
          exact absurd H (by simp)
        ·rw [if_neg c28] at H
         exact absurd H (by simp)
       ·replace c26 := Bool.eq_false_iff.mpr c26
        subst c26
        have H1 : (if x389001_1.length < 17592186044416 then (spec_l02Drawn.l0 kj15 a1 (wrap64 (x8_1 - 1)) s0_0 x1001_15 x1002_15 a1 (x389001_1 ++ [t392])) else (none)) = some (r1, r2, r3, r4) := by rw [if_neg (show ¬ (false = true) by decide)] at H; exact H
        clear H
        have H := H1
        clear H1
        by_cases c59 : x389001_1.length < 17592186044416
        ·rw [if_pos c59] at H
         have LMc59 := Aq.mk c59
         clear c59
         obtain ⟨y415, hy415⟩ : ∃ y_ : List Int, y_ = (x389001_1 ++ [t392]) := ⟨_, rfl⟩
         replace H : (spec_l02Drawn.l0 kj15 a1 (wrap64 (x8_1 - 1)) s0_0 x1001_15 x1002_15 a1 y415) = some (r1, r2, r3, r4) := by first | (rw [hy415]; with_reducible exact H) | (have H2_ := (Option.bind_some _ _).symm.trans H; rw [hy415]; with_reducible exact H2_) | (have H2_ := (Option.bind_some _ _).symm.trans H; with_reducible exact H2_) | with_reducible exact H | (rw [hy415]; exact H) | exact H
         have Ny415 := Aq.mk hy415
         clear hy415
         have H' := Aq.mk H
         clear H
         have hnb60 := NB388_387.out
         have hnc60 := NB387_388.out
         have hnb61 := NB388_0.out
         have hnc61 := NB0_388.out
         have hcz62_0 : wc.cell? ⟨gb388, 0, none⟩ = some (.int .i64 a1) := (kQC BK388.out 0).trans rfl
         have hcz62_1 : wc.cell? ⟨gb388, 1, none⟩ = some (u389001) := (kQC BK388.out 1).trans rfl
         have hfz62_0 := kQF BK388.out 0
         have hfz62_1 := kQF BK388.out 1
         go_wp2_with (first | ((with_reducible refine gate_builtin (b := .append) (xs := #[.tmp 56, .tmp 58]) rfl ?_); (try (refine gate_guard (by rfl) ?_; dsimp only)); at_builtin; refine Kd.R_append (Kd.int .i64) w.heap.size rfl (.tmp 56) (.tmp 58) 22 2 (.int .i64 0) 8 rfl Try.underlying22 info2 rfl (by decide) (by omega) u389001 x389001_1 t392 [.int .i64 t392] (fun _ => True) (fun _ => False) rfl rfl ?aP (fun _ hk => hk.elim) ?aF ?aO (Below.refl _ _) ?aS ?aL ?_; (case aP => exact rfl); (case aF => exact (fun _ _ => trivial)); (case aO => exact (by (with_reducible repeat (first | apply Kd.RqA | apply Kd.RqN | apply Kd.RqD)); exact HO_389001.out)); (case aS => exact (keep_size (w := w) (g := g) (row := none) (by repeat (first | (with_reducible first | exact HK.out | apply KeepBut.set_ | apply keep_drewN | apply keep_drew | apply keep_alloc | refine keep_far ?_ GW387.out _ | refine keep_far ?_ GW388.out _) | exact HK.out)))); (case aL => have := LMc59.out; omega); intro v416 w63 ho hb hg hat; rw [← Ny415.out] at ho; have n0_ := Aq.mk (blk_grown (g := gb387) (o := .cells #[.int .i64 0, .slice none 0 0] 26 (0, 0)) (by (with_reducible repeat (first | refine kQN ?_ _ | refine kQD ?_ | refine kQA ?_ _)); exact BK387.out) hg (Kd.R_ne HO_389001.out BK387.out (by decide))); have n1_ := Aq.mk (blk_grown (g := gb388) (o := .cells #[.int .i64 a1, u389001] 26 (0, 0)) (by (with_reducible repeat (first | refine kQN ?_ _ | refine kQD ?_ | refine kQA ?_ _)); exact BK388.out) hg (Kd.R_ne HO_389001.out BK388.out (by decide))); have n2_ := Aq.mk (IsS90.grown (by repeat (first | (with_reducible first | exact HI0.out | apply IsS90.alloc | apply IsS90.drewN | apply IsS90.drew | apply IsS90.set_1 | apply IsS90.set_2 | refine IsS90.far ?_ NB0_387.out _ | refine IsS90.far ?_ NB0_388.out _) | exact HI0.out)) hg (IsS90.own_ne HI0.out HO_389001.out (by decide))); have n3_ := Aq.mk (below_weaken (by repeat (first | (with_reducible first | exact HB.out | apply bQA | apply bQN | apply bQ1 | refine bQS ?_ (IsS90.ge HI0.out) | refine bQS ?_ GE387.out | refine bQS ?_ GE388.out) | exact HB.out)) HL.out hb); have n4_ := Aq.mk (KeepBut.trans (by repeat (first | (with_reducible first | exact HK.out | apply KeepBut.set_ | apply keep_drewN | apply keep_drew | apply keep_alloc | refine keep_far ?_ GW387.out _ | refine keep_far ?_ GW388.out _) | exact HK.out)) (KeepBut.of_grown hg g) (Kd.R_base2 HO_389001.out)); have n5_ := Aq.mk (ho); clear BK387; clear BK388; clear HI0; clear HB; clear HK; clear HO_389001; have BK387 := n0_; have BK388 := n1_; have HI0 := n2_; have HB := n3_; have HK := n4_; have HO417 := n5_; clear n0_ n1_ n2_ n3_ n4_ n5_; clear ho hb hg hat; obtain ⟨Ao64, co64, eo64⟩ := Kd.R_slice HO417.out; subst eo64; have hcz65_0 : w63.cell? ⟨gb388, 0, none⟩ = some (.int .i64 a1) := (kQC BK388.out 0).trans rfl; have hcz65_1 : w63.cell? ⟨gb388, 1, none⟩ = some (u389001) := (kQC BK388.out 1).trans rfl; have hfz65_0 := kQF BK388.out 0; have hfz65_1 := kQF BK388.out 1))
         go_roundg kj15
         case measure => have := HK1.out; have := HJ15.out; omega
         case rel => exact ⟨(wrap64 (x8_1 - 1)), (x1001_15), (x1002_15), (y415), (.slice Ao64 y415.length co64), (by first | rfl | (simp; done) | (simp [*]; done)), H', ⟨by have := HK1.out; have := HJ15.out; omega⟩, ⟨by (with_reducible repeat (first | apply Kd.RqA | apply Kd.RqN | apply Kd.RqD)); exact Kd.R_mono (Kd.R_far (p := ⟨gb388, 1, none⟩) (Kd.R_types HO417.out BK388.out (by decide)) (fun _ hk => hk.2) (.slice Ao64 y415.length co64)) (fun _ hk => trivial)⟩, ⟨by (with_reducible repeat (first | refine kQN ?_ _ | refine kQD ?_ | refine kQA ?_ _)); refine kQR ?_ NB387_388.out _; (with_reducible repeat (first | refine kQN ?_ _ | refine kQD ?_ | refine kQA ?_ _)); exact BK387.out⟩, ⟨by (with_reducible repeat (first | refine kQN ?_ _ | refine kQD ?_ | refine kQA ?_ _)); refine kQP (cs := #[.int .i64 a1, u389001]) ?_ 1 _ rfl; (with_reducible repeat (first | refine kQN ?_ _ | refine kQD ?_ | refine kQA ?_ _)); exact BK388.out⟩, ⟨by repeat (first | (with_reducible first | exact HI0.out | apply IsS90.alloc | apply IsS90.drewN | apply IsS90.drew | apply IsS90.set_1 | apply IsS90.set_2 | refine IsS90.far ?_ NB0_387.out _ | refine IsS90.far ?_ NB0_388.out _) | exact HI0.out)⟩, ⟨by repeat (first | (with_reducible first | exact HK.out | apply KeepBut.set_ | apply keep_drewN | apply keep_drew | apply keep_alloc | refine keep_far ?_ GW387.out _ | refine keep_far ?_ GW388.out _) | exact HK.out)⟩, ⟨by repeat (first | (with_reducible first | exact HB.out | apply bQA | apply bQN | apply bQ1 | refine bQS ?_ (IsS90.ge HI0.out) | refine bQS ?_ GE387.out | refine bQS ?_ GE388.out) | exact HB.out)⟩⟩
        ·rw [if_neg c59] at H
         exact absurd H (by simp)
    ·rw [if_neg c13] at H
     exact absurd H (by simp)
   ·rw [if_neg c11] at H
    have c11b0 : decide (0 < x8_1) = false := decide_eq_false c11
    clear c11
    simp only [Option.some.injEq, Prod.mk.injEq] at H
    obtain ⟨rfl, rfl, rfl, rfl⟩ := H
    have hnb66 := NB388_387.out
    have hnc66 := NB387_388.out
    have hnb67 := NB388_0.out
    have hnc67 := NB0_388.out
    have hcz68_0 : wr.cell? ⟨gb388, 0, none⟩ = some (.int .i64 a1) := (kQC BK388.out 0).trans rfl
    have hcz68_1 : wr.cell? ⟨gb388, 1, none⟩ = some (u389001) := (kQC BK388.out 1).trans rfl
    have hfz68_0 := kQF BK388.out 0
    have hfz68_1 := kQF BK388.out 1
    have hnb69 := NB387_0.out
    have hnc69 := NB0_387.out
    have hcz70_0 : wr.cell? ⟨gb387, 0, none⟩ = some (.int .i64 0) := (kQC BK387.out 0).trans rfl
    have hcz70_1 : wr.cell? ⟨gb387, 1, none⟩ = some (.slice none 0 0) := (kQC BK387.out 1).trans rfl
    have hfz70_0 := kQF BK387.out 0
    have hfz70_1 := kQF BK387.out 1
    obtain ⟨Ao71, co71, eo71⟩ := Kd.R_slice HO_389001.out
    subst eo71
    go_wp2
    refine bodyPost_ret (results_cell_row rfl _ _ gb387 26 #[.int .i64 a1, .slice Ao71 x389001_1.length co71] (0, 0) _ rfl (by (with_reducible repeat (first | refine kQN ?_ _ | refine kQD ?_ | refine kQA ?_ _)); refine kQP (cs := #[.int .i64 a1, .slice none 0 0]) ?_ 1 _ rfl; (with_reducible repeat (first | refine kQN ?_ _ | refine kQD ?_ | refine kQA ?_ _)); refine kQP (cs := #[.int .i64 0, .slice none 0 0]) ?_ 0 _ rfl; (with_reducible repeat (first | refine kQN ?_ _ | refine kQD ?_ | refine kQA ?_ _)); exact BK387.out) Try.underlying26 rfl (by kernel_rfl)) rfl ?_
    exact ⟨_, by first | rfl | (simp [errW_none, errW_some] <;> rfl) | (simp [*, errW_none, errW_some] <;> rfl), by (with_reducible repeat (first | apply Kd.RqA | apply Kd.RqN | apply Kd.RqD)); exact Kd.R_mono (Kd.R_far (p := ⟨gb387, 1, none⟩) (Kd.R_far (p := ⟨gb387, 0, none⟩) (Kd.R_types HO_389001.out BK387.out (by decide)) (fun _ hk => hk.2) (.int .i64 a1)) (fun _ hk => hk.2) (.slice Ao71 x389001_1.length co71)) (fun _ hk => trivial), by repeat (first | (with_reducible first | exact HI0.out | apply IsS90.alloc | apply IsS90.drewN | apply IsS90.drew | apply IsS90.set_1 | apply IsS90.set_2 | refine IsS90.far ?_ NB0_387.out _ | refine IsS90.far ?_ NB0_388.out _) | exact HI0.out), by repeat (first | (with_reducible first | exact HB.out | apply bQA | apply bQN | apply bQ1 | refine bQS ?_ (IsS90.ge HI0.out) | refine bQS ?_ GE387.out | refine bQS ?_ GE388.out) | exact HB.out), by repeat (first | (with_reducible first | exact HK.out | apply KeepBut.set_ | apply keep_drewN | apply keep_drew | apply keep_alloc | refine keep_far ?_ GW387.out _ | refine keep_far ?_ GW388.out _) | exact HK.out)⟩
end Go.Proofs.Ytbaicdgkpnbipaa.P
