/- Functions of the program and what they tell, as the printing program wrote it. -/
import Derived.Test.YtkhjoomjjdgkjaaPx0
import Derived.Test.YtkhjoomjjdgkjaaPx1
import Derived.Test.YtkhjoomjjdgkjaaPx2
import Derived.Test.YtkhjoomjjdgkjaaPx18
namespace Go.Proofs.Ytkhjoomjjdgkjaa.P
open Go.Shelf Go.RowKit Go.Proofs.YtkhjoomjjdgkjaaW.PrintWords Go.Proofs.YtkhjoomjjdgkjaaW.PrintLast Go.Proofs.YtkhjoomjjdgkjaaW.PrintMore
attribute [local go_sem] max2_int min2_int max_two min_two max_three min_three max_four min_four
set_option linter.unusedVariables false
set_option linter.unusedSimpArgs false
set_option maxHeartbeats 8000000
set_option maxRecDepth 100000
def spec_l00From.f (l0 : List Int) : Option (List Int × Int × Int) := some (l0, 0, 0)
theorem spec_l00From.calls (A0 : Option Addr) (c0 : Nat) (l0 : List Int) (r1 : List Int) (r2 : Int) (r3 : Int) (w0 w : World) (hB : Below w0.heap.size w0 w) (hr0 : Kd.C (Kd.int .u8) w0 A0 l0.length l0) (hc0 : l0.length ≤ c0) (h : spec_l00From.f l0 = some (r1, r2, r3)) :
 Calls Try.prog 37 #[.slice A0 l0.length c0] w fun e w' => ∃ g_ : Nat, e = .returned (.pointer (some ⟨g_, 0, none⟩)) ∧ IsS76 w0 w' g_ r1 r2 r3 ∧ Below w0.heap.size w0 w' ∧ Below w.heap.size w w' := by
 have hu76 := Try.underlying76
 have HR0 := Aq.mk hr0
 have HC0 := Aq.mk hc0
 clear hr0 hc0
 have HBW := Aq.mk (Below.refl w.heap.size w)
 have HW0 := Aq.mk hB.size
 have HB := Aq.mk hB
 clear hB
 have H : (some (l0, 0, 0)) = some (r1, r2, r3) := h
 clear h
 simp only [Option.some.injEq, Prod.mk.injEq] at H
 obtain ⟨rfl, rfl, rfl⟩ := H
 go_enter Try.func37, Try.ntmps37
 go_wp2_with (first | ((with_reducible refine gQd (N := 5) rfl ?_); refine xQe ?hg (N := 5) ?hd (cs := #[.slice A0 l0.length c0, .int .i64 0, .int .u64 0]) (t := 76) ?hr ?_; (case hd => rfl); (case hg => rfl); (case hr => exact tH); intro gb589 hg w2 hbox hb; refine qM5 (bQT HBW.out hb) (bQT tB hb) hbox ((by rw [hg]; exact (bQZ (by repeat (first | (with_reducible first | exact HBW.out | apply bQA | apply bQN | apply bQ1) | exact HBW.out))) : w.heap.size ≤ gb589)) ((Nat.le_trans HW0.out (by rw [hg]; exact (bQZ (by repeat (first | (with_reducible first | exact HBW.out | apply bQA | apply bQN | apply bQ1) | exact HBW.out))) : w.heap.size ≤ gb589) : w0.heap.size ≤ gb589)) ?_; clear HBW HB; intro HBW HB BK589 GW589 GE589; clear hb hbox hg))
 go_ret
 exact ⟨_, rfl, (show IsS76 w0 _ gb589 l0 0 0 from ⟨_, _, tG BK589.out, GE589.out, HR0.out⟩), tB, by repeat (first | (with_reducible first | exact HBW.out | apply bQA | apply bQN | apply bQ1 | refine bQS ?_ GW589.out) | exact HBW.out)⟩
def spec_A2Field.f (k : Nat) (l0 : List Int) : Option (Int × Int) := (spec_l00From.f l0).bind fun bt591 => ((spec_l01Drawn.f k bt591.1 bt591.2.1 bt591.2.2).bind fun bt595 => (some (bt595.1, bt595.2.1)))
theorem spec_A2Field.mono : ∀ a0 k, LeO (spec_A2Field.f k a0) (spec_A2Field.f (k + 1) a0) := by
 intro a0 k
 unfold spec_A2Field.f
 repeat' first
  | (with_reducible first | apply spec_l01Drawn.mono | exact LeO.refl _ | exact LeO.none _ | refine LeO.ite ?_ ?_ | refine LeO.bind ?_ (fun _ => ?_))
  | exact LeO.none _
  | refine LeO.ite ?_ ?_
  | refine LeO.bind ?_ (fun _ => ?_)
theorem spec_A2Field.calls (k : Nat) (A0 : Option Addr) (c0 : Nat) (l0 : List Int) (r1 : Int) (r2 : Int) (w : World) (hr0 : Kd.C (Kd.int .u8) w A0 l0.length l0) (hc0 : l0.length ≤ c0) (h : spec_A2Field.f k l0 = some (r1, r2)) :
 Calls Try.prog 18 #[.slice A0 l0.length c0] w fun e w' => e = .returned (.agg #[.int .i64 r1, .int .i64 r2]) ∧ Below w.heap.size w w' := by
 have hu27 := Try.underlying27
 have HR0 := Aq.mk hr0
 have HC0 := Aq.mk hc0
 clear hr0 hc0
 have HB := Aq.mk (Below.refl w.heap.size w)
 have H : ((spec_l00From.f l0).bind fun bt591 => ((spec_l01Drawn.f k bt591.1 bt591.2.1 bt591.2.2).bind fun bt595 => (some (bt595.1, bt595.2.1)))) = some (r1, r2) := h
 clear h
 obtain ⟨⟨t591, t592, t593⟩, A2, H⟩ := qBd H
 (try dsimp only at H)
 obtain ⟨⟨t595, t596, t597, t598⟩, A3, H⟩ := qBd H
 (try dsimp only at H)
 simp only [Option.some.injEq, Prod.mk.injEq] at H
 obtain ⟨rfl, rfl⟩ := H
 go_enter Try.func18, Try.ntmps18
 go_wp2_with (first | ((with_reducible refine gQd (N := 2) rfl ?_); refine xQe ?hg (N := 2) ?hd (cs := #[.int .i64 0, .int .i64 0]) (t := 27) ?hr ?_; (case hd => rfl); (case hg => rfl); (case hr => exact tH); intro gb590 hg w4 hbox hb; refine qM4 (bQT tB hb) hbox (tZ w hg) (tZ w hg) ?_; clear HB; intro HB BK590 GW590 GE590; clear hb hbox hg) | ((with_reducible refine gQc (f := 37) rfl ?_); refine goesL_ (some 4) rfl rfl Try.func37 (by kernel_rfl) rfl #[.slice A0 l0.length c0] rfl tL ?_; (with_reducible refine (spec_l00From.calls _ _ l0 t591 t592 t593 w _ ?s1 ?s2 ?s3 A2.out).mono ?_); (case s1 => exact tB); (case s2 => exact HR0.out); (case s3 => exact HC0.out); rintro e w5 ⟨g594, rfl, hi, hb, hb2⟩; refine ⟨_, rfl, ?_⟩; refine qM5 (kQB (g := gb590) (o := .cells #[.int .i64 0, .int .i64 0] 27 (0, 0)) (tG BK590.out) hb2) hb hi (IsS76.ne_blk hi (kQB (g := gb590) (o := .cells #[.int .i64 0, .int .i64 0] 27 (0, 0)) (tG BK590.out) hb2) (by decide)) (Ne.symm (IsS76.ne_blk hi (kQB (g := gb590) (o := .cells #[.int .i64 0, .int .i64 0] 27 (0, 0)) (tG BK590.out) hb2) (by decide))) ?_; clear BK590 HB; intro BK590 HB HI594 NB594_590 NB590_594; (try clear hb); (try clear hb2); (try clear hk); (try clear hi)) | ((with_reducible refine gQc (f := 36) rfl ?_); refine goesL_ (some 5) rfl rfl Try.func36 (by kernel_rfl) rfl #[.pointer (some ⟨g594, 0, none⟩)] rfl tL ?_; (with_reducible refine (spec_l01Drawn.calls k g594 t591 t592 t593 t595 t596 t597 t598 w _ ?s1 ?s2 A3.out).mono ?_); (case s1 => repeat (first | (with_reducible first | exact HI594.out | apply IsS76.alloc | apply IsS76.drewN | apply IsS76.drew | apply IsS76.set_1 | apply IsS76.set_2 | refine IsS76.far ?_ NB594_590.out _) | exact HI594.out)); (case s2 => repeat (first | (with_reducible first | exact HB.out | apply bQA | apply bQN | apply bQ1 | refine bQS ?_ (IsS76.ge HI594.out) | refine bQS ?_ GE590.out) | exact HB.out)); rintro e w6 ⟨rfl, hi, hb, hk⟩; refine ⟨_, rfl, ?_⟩; refine qM3 (KeepBut.blk hk (g' := gb590) (o := .cells #[.int .i64 0, .int .i64 0] 27 (0, 0)) (tG BK590.out) NB590_594.out (by simp)) hb hi ?_; clear BK590 HB HI594; intro BK590 HB HI594; (try clear hb); (try clear hb2); (try clear hk); (try clear hi); have hnb7 := NB590_594.out; have hnc7 := NB594_590.out; have hcz8_0 : w6.cell? ⟨gb590, 0, none⟩ = some (.int .i64 0) := (kQC BK590.out 0).trans rfl; have hcz8_1 : w6.cell? ⟨gb590, 1, none⟩ = some (.int .i64 0) := (kQC BK590.out 1).trans rfl; have hfz8_0 := kQF BK590.out 0; have hfz8_1 := kQF BK590.out 1))
 refine bodyPost_ret (results_cell_row rfl _ _ gb590 27 #[.int .i64 t595, .int .i64 t596] (0, 0) _ rfl (by (with_reducible repeat (first | refine kQN ?_ _ | refine kQD ?_ | refine kQA ?_ _)); refine kQP (cs := #[.int .i64 t595, .int .i64 0]) ?_ 1 _ rfl; (with_reducible repeat (first | refine kQN ?_ _ | refine kQD ?_ | refine kQA ?_ _)); refine kQP (cs := #[.int .i64 0, .int .i64 0]) ?_ 0 _ rfl; (with_reducible repeat (first | refine kQN ?_ _ | refine kQD ?_ | refine kQA ?_ _)); exact BK590.out) Try.underlying27 rfl (by kernel_rfl)) rfl ?_
 exact ⟨tE, by repeat (first | (with_reducible first | exact HB.out | apply bQA | apply bQN | apply bQ1 | refine bQS ?_ (IsS76.ge HI594.out) | refine bQS ?_ GE590.out) | exact HB.out)⟩
def spec_l03Drawn.l0 : Nat → List Int → Int → List Int → Int → Int → Int → Int → Option (List Int × Int × Int)
  | 0, _, _, _, _, _, _, _ => none
  | k + 1, x7, x8, x1000, x1001, x1002, x600000, x600001 => if x8 > 0 then ((spec_l01Size.f x600000 x600001).bind fun t606 => ((spec_l00Src_pick.f x1000 x1001 x1002 t606).bind fun bt607 => (if x7.length < 17592186044416 then (spec_l03Drawn.l0 k (x7 ++ [bt607.1]) (wrap64 (x8 - 1)) x1000 bt607.2.1 bt607.2.2 x600000 x600001) else (none)))) else ((spec_l03Trim.f k x7).bind fun t613 => (some (t613, x1001, x1002)))
def spec_l03Drawn.f (k : Nat) (s0_0 : List Int) (s0_1 : Int) (s0_2 : Int) (a1_0 : Int) (a1_1 : Int) (a2 : Int) : Option (List Int × Int × Int) := (spec_l00Src_pick.f s0_0 s0_1 s0_2 (wrap64 (a2 + 1))).bind fun bt603 => (spec_l03Drawn.l0 k (([] : List Int)) bt603.1 s0_0 bt603.2.1 bt603.2.2 a1_0 a1_1)
theorem spec_l03Drawn.mono_l : ∀ k, (∀ y0 y1 y2 y3 y4 y5 y6, LeO (spec_l03Drawn.l0 k y0 y1 y2 y3 y4 y5 y6) (spec_l03Drawn.l0 (k + 1) y0 y1 y2 y3 y4 y5 y6))
 | 0 => fun _ _ _ _ _ _ _ r h => by simp [spec_l03Drawn.l0] at h
 | k + 1 => by
  have ih0 := spec_l03Drawn.mono_l k
  ·intro y0 y1 y2 y3 y4 y5 y6
   unfold spec_l03Drawn.l0
   repeat' first
   | (with_reducible first | apply ih0 | apply spec_l03Trim.mono | exact LeO.refl _ | exact LeO.none _ | refine LeO.ite ?_ ?_ | refine LeO.bind ?_ (fun _ => ?_))
   | exact LeO.none _
   | refine LeO.ite ?_ ?_
   | refine LeO.bind ?_ (fun _ => ?_)
theorem spec_l03Drawn.mono : ∀ a0 a1 a2 a3 a4 a5 k, LeO (spec_l03Drawn.f k a0 a1 a2 a3 a4 a5) (spec_l03Drawn.f (k + 1) a0 a1 a2 a3 a4 a5) := by
 intro a0 a1 a2 a3 a4 a5 k
 have ih0 := spec_l03Drawn.mono_l k
 unfold spec_l03Drawn.f
 repeat' first
  | (with_reducible first | apply ih0 | apply spec_l03Trim.mono | exact LeO.refl _ | exact LeO.none _ | refine LeO.ite ?_ ?_ | refine LeO.bind ?_ (fun _ => ?_))
  | exact LeO.none _
  | refine LeO.ite ?_ ?_
  | refine LeO.bind ?_ (fun _ => ?_)
theorem spec_l03Drawn.calls (k : Nat) (g : Nat) (s0_0 : List Int) (s0_1 : Int) (s0_2 : Int) (a1_0 : Int) (a1_1 : Int) (a2 : Int) (r1 : List Int) (r2 : Int) (r3 : Int) (w0 w : World) (hI : IsS76 w0 w g s0_0 s0_1 s0_2) (hB : Below w0.heap.size w0 w) (h : spec_l03Drawn.f k s0_0 s0_1 s0_2 a1_0 a1_1 a2 = some (r1, r2, r3)) :
 Calls Try.prog 38 #[.pointer (some ⟨g, 0, none⟩), .agg #[.int .i64 a1_0, .int .i64 a1_1], .int .i64 a2] w fun e w' => ∃ v0_ : Value, e = .returned (v0_) ∧ Kd.R (Kd.int .i64) 2 w' w.heap.size (fun _ => True) v0_ r1 ∧ IsS76 w0 w' g s0_0 r2 r3 ∧ Below w0.heap.size w0 w' ∧ KeepBut w w' g none := by
 have hu27 := Try.underlying27
 have HI0 := Aq.mk hI
 have HK := Aq.mk (KeepBut.refl w g none)
 have HL := Aq.mk hB.size
 clear hI
 have HW0 := Aq.mk hB.size
 have HB := Aq.mk hB
 clear hB
 have H : ((spec_l00Src_pick.f s0_0 s0_1 s0_2 (wrap64 (a2 + 1))).bind fun bt603 => (spec_l03Drawn.l0 k (([] : List Int)) bt603.1 s0_0 bt603.2.1 bt603.2.2 a1_0 a1_1)) = some (r1, r2, r3) := h
 clear h
 obtain ⟨y600, hy600⟩ : ∃ y_ : List Int, y_ = (([] : List Int)) := ⟨_, rfl⟩
 replace H : ((spec_l00Src_pick.f s0_0 s0_1 s0_2 (wrap64 (a2 + 1))).bind fun bt603 => (spec_l03Drawn.l0 k y600 bt603.1 s0_0 bt603.2.1 bt603.2.2 a1_0 a1_1)) = some (r1, r2, r3) := by first | (rw [hy600]; with_reducible exact H) | (have H2_ := (Option.bind_some _ _).symm.trans H; rw [hy600]; with_reducible exact H2_) | (have H2_ := (Option.bind_some _ _).symm.trans H; with_reducible exact H2_) | with_reducible exact H | (rw [hy600]; exact H) | exact H
 have Ny600 := Aq.mk hy600
 clear hy600
 obtain ⟨⟨t603, t604, t605⟩, A4, H⟩ := qBd H
 (try dsimp only at H)
 replace H' := Aq.mk H
 clear H
 go_enter Try.func38, Try.ntmps38
 go_wp2_with (first | ((with_reducible refine gQd (N := 4) rfl ?_); refine xQe ?hg (N := 4) ?hd (cs := #[.int .i64 a1_0, .int .i64 a1_1]) (t := 27) ?hr ?_; (case hd => rfl); (case hg => rfl); (case hr => exact tH); intro gb599 hg w5 hbox hb; refine qM8 (IsS76.below tI hb) (KeepBut.trans tK (KeepBut.of_below hb g none) (.inl rfl)) (bQT tB hb) hbox ((by rw [hg]; exact (keep_size (w := w) (g := g) (row := none) tK) : w.heap.size ≤ gb599)) ((Nat.le_trans HW0.out (by rw [hg]; exact (keep_size (w := w) (g := g) (row := none) tK) : w.heap.size ≤ gb599) : w0.heap.size ≤ gb599)) ((by rw [hg]; exact Nat.ne_of_lt (IsS76.lt (show IsS76 w0 _ g s0_0 s0_1 s0_2 from tI)) : g ≠ gb599)) ((by rw [hg]; exact Nat.ne_of_gt (IsS76.lt (show IsS76 w0 _ g s0_0 s0_1 s0_2 from tI)) : gb599 ≠ g)) ?_; clear HI0 HK HB; intro HI0 HK HB BK599 GW599 GE599 NB0_599 NB599_0; clear hb hbox hg) | ((with_reducible refine gQd (N := 9) rfl ?_); refine Kd.R_lit (Kd.int .i64) _ 2 ?hg (N := 9) ?hd (xs := ([] : List Int)) (inner := []) (ok := fun _ => True) (okp := fun _ => True) ?hr ?hp (fun _ hk => hk) trivial (Below.refl _ _) (Nat.le_refl _) (by simp) ?_; (case hd => rfl); (case hg => rfl); (case hr => exact tH); (case hp => exact (Reps.none _ _)); intro v601 w6 ho7 hb hg_ hnew_; clear hg_ hnew_; (first | rw [← Ny600.out] at ho7 | (simp only [Int.reduceToNat] at ho7; rw [← Ny600.out] at ho7)); refine qM5 (Kd.R_lower ho7 (keep_size (w := w) (g := g) (row := none) tK)) (IsS76.below tI hb) (tQ BK599.out hb) (KeepBut.trans tK (KeepBut.of_below hb g none) (.inl rfl)) (bQT tB hb) ?_; clear HI0 BK599 HK HB; intro HO602 HI0 BK599 HK HB; clear hb ho7) | ((with_reducible refine gQc (f := 48) rfl ?_); refine goesL_ (some 13) rfl rfl Try.func48 (by kernel_rfl) rfl #[.pointer (some ⟨g, 0, none⟩), .int .i64 (wrap64 (a2 + 1))] rfl tL ?_; (with_reducible refine (spec_l00Src_pick.calls g s0_0 s0_1 s0_2 (wrap64 (a2 + 1)) t603 t604 t605 w0 _ ?s1 ?s2 A4.out).mono ?_); (case s1 => exact tI); (case s2 => exact tB); rintro e w8 ⟨rfl, hi, hb, hk⟩; refine ⟨_, rfl, ?_⟩; refine qM5 (KeepBut.blk hk (g' := gb599) (o := .cells #[.int .i64 a1_0, .int .i64 a1_1] 27 (0, 0)) (tG BK599.out) NB599_0.out (by simp)) (Kd.R_mono (Kd.R_keep (IsS76.apart (show IsS76 w0 _ g s0_0 s0_1 s0_2 from tI) (tR HO602.out) (by decide)) hk (fun _ h => h.2)) (fun _ h => h.1)) (KeepBut.trans tK hk (.inl rfl)) hb hi ?_; clear BK599 HO602 HK HB HI0; intro BK599 HO602 HK HB HI0; (try clear hb); (try clear hb2); (try clear hk); (try clear hi)))
 go_loopg [7, 8] k (fun kq v7 v8 w' => ∃ (x7_1 : List Int) (x8_1 : Int) (x1001_1 : Int) (x1002_1 : Int), v8 = .int .i64 x8_1 ∧ Aq (spec_l03Drawn.l0 kq x7_1 x8_1 s0_0 x1001_1 x1002_1 a1_0 a1_1 = some (r1, r2, r3)) ∧ Aq (kq ≤ k) ∧ Aq (Kd.R (Kd.int .i64) 2 w' w.heap.size (fun _ => True) v7 x7_1) ∧ Aq (w'.heap[gb599]? = some (.cells #[.int .i64 a1_0, .int .i64 a1_1] 27 (0, 0))) ∧ Aq (IsS76 w0 w' g s0_0 x1001_1 x1002_1) ∧ Aq (KeepBut w w' g none) ∧ Aq (Below w0.heap.size w0 w'))
 case atStart => exact ⟨(y600), (t603), (t604), (t605), tS, H', ⟨Nat.le_refl _⟩, ⟨tR HO602.out⟩, ⟨tG BK599.out⟩, ⟨tI⟩, ⟨tK⟩, ⟨tB⟩⟩
 clear H'
 obtain ⟨x7_1, x8_1, x1001_1, x1002_1, rfl, HA, HK1, HO_7, BK599, HI0, HK, HB⟩ := hrel
 cases gk with
 | zero => exact absurd HA.out (by simp [spec_l03Drawn.l0])
 | succ k1 =>
  have H := HA.out
  clear HA
  simp only [spec_l03Drawn.l0] at H
  by_cases c9 : x8_1 > 0
  rotate_left
  ·rw [if_neg c9] at H
   have c9b0 := decide_eq_false c9
   clear c9
   obtain ⟨t613, A18, H⟩ := qBd H
   simp only [Option.some.injEq, Prod.mk.injEq] at H
   obtain ⟨rfl, rfl, rfl⟩ := H
   obtain ⟨Ao19, co19, eo19⟩ := Kd.R_slice HO_7.out
   subst eo19
   go_wp2_with (first | ((with_reducible refine gQc (f := 71) rfl ?_); refine goesL_ (some 26) rfl rfl Try.func71 (by kernel_rfl) rfl #[.slice Ao19 x7_1.length co19] rfl tL ?_; (with_reducible refine (spec_l03Trim.calls k1 _ _ x7_1 t613 _ ?s1 ?s2 A18.out).mono ?_); (case s1 => exact tC ((Kd.R_reads' HO_7.out).2.2)); (case s2 => exact (Kd.R_reads' HO_7.out).2.1); rintro e w20 ⟨v614, rfl, ho0, hb⟩; refine ⟨_, rfl, ?_⟩; refine qM6 (Kd.R_elder' (tR HO_7.out) (Kd.R_base ho0) hb) (Kd.R_lower (Kd.R_new' ho0 (Kd.R_lt (tR HO_7.out))) (keep_size (w := w) (g := g) (row := none) tK)) (tQ BK599.out hb) (IsS76.below tI hb) (KeepBut.trans tK (KeepBut.of_below hb g none) (.inl rfl)) (bQT tB hb) ?_; clear HO_7 BK599 HI0 HK HB; intro HO_7 HO615 BK599 HI0 HK HB; (try clear hb); (try clear hb2); (try clear hk); (try clear hi); (try clear ho0)))
   go_ret
   exact ⟨_, tE, by (with_reducible repeat (first | apply Kd.RqA | apply Kd.RqN | apply Kd.RqD)); exact Kd.R_mono HO615.out (fun _ hk => trivial), tI, tB, tK⟩
  rw [if_pos c9] at H
  have c9b0 := decide_eq_true c9
  clear c9
  obtain ⟨t606, A10, H⟩ := qBd H
  obtain ⟨⟨t607, t608, t609⟩, A11, H⟩ := qBd H
  (try dsimp only at H)
  by_cases c12 : x7_1.length < 17592186044416
  rotate_left
  ·rw [if_neg c12] at H
   exact absurd H (by simp)
  rw [if_pos c12] at H
  have LMc12 := Aq.mk c12
  clear c12
  obtain ⟨y610, hy610⟩ : ∃ y_ : List Int, y_ = (x7_1 ++ [t607]) := ⟨_, rfl⟩
  replace H : (spec_l03Drawn.l0 k1 y610 (wrap64 (x8_1 - 1)) s0_0 t608 t609 a1_0 a1_1) = some (r1, r2, r3) := by first | (rw [hy610]; with_reducible exact H) | (have H2_ := (Option.bind_some _ _).symm.trans H; rw [hy610]; with_reducible exact H2_) | (have H2_ := (Option.bind_some _ _).symm.trans H; with_reducible exact H2_) | with_reducible exact H | (rw [hy610]; exact H) | exact H
  have Ny610 := Aq.mk hy610
  clear hy610
  replace H' := Aq.mk H
  clear H
  have hnb13 := NB599_0.out
  have hnc13 := NB0_599.out
  have hcz14_0 : wr.cell? ⟨gb599, 0, none⟩ = some (.int .i64 a1_0) := (kQC BK599.out 0).trans rfl
  have hcz14_1 : wr.cell? ⟨gb599, 1, none⟩ = some (.int .i64 a1_1) := (kQC BK599.out 1).trans rfl
  have hfz14_0 := kQF BK599.out 0
  have hfz14_1 := kQF BK599.out 1
  go_wp2_with (first | ((with_reducible refine gQc (f := 49) rfl ?_); refine goesL_ (some 21) rfl rfl Try.func49 (by kernel_rfl) rfl #[.agg #[.int .i64 a1_0, .int .i64 a1_1]] rfl tL ?_; (with_reducible refine (spec_l01Size.calls a1_0 a1_1 t606 _ A10.out).mono ?_); rintro e w15 ⟨rfl, hb⟩; refine ⟨_, rfl, ?_⟩; refine qM5 (Kd.R_below (tR HO_7.out) hb) (tQ BK599.out hb) (IsS76.below tI hb) (KeepBut.trans tK (KeepBut.of_below hb g none) (.inl rfl)) (bQT tB hb) ?_; clear HO_7 BK599 HI0 HK HB; intro HO_7 BK599 HI0 HK HB; (try clear hb); (try clear hb2); (try clear hk); (try clear hi)) | ((with_reducible refine gQc (f := 48) rfl ?_); refine goesL_ (some 22) rfl rfl Try.func48 (by kernel_rfl) rfl #[.pointer (some ⟨g, 0, none⟩), .int .i64 t606] rfl tL ?_; (with_reducible refine (spec_l00Src_pick.calls g s0_0 x1001_1 x1002_1 t606 t607 t608 t609 w0 _ ?s1 ?s2 A11.out).mono ?_); (case s1 => exact tI); (case s2 => exact tB); rintro e w16 ⟨rfl, hi, hb, hk⟩; refine ⟨_, rfl, ?_⟩; refine qM5 (Kd.R_mono (Kd.R_keep (IsS76.apart (show IsS76 w0 _ g s0_0 x1001_1 x1002_1 from tI) (tR HO_7.out) (by decide)) hk (fun _ h => h.2)) (fun _ h => h.1)) (KeepBut.blk hk (g' := gb599) (o := .cells #[.int .i64 a1_0, .int .i64 a1_1] 27 (0, 0)) (tG BK599.out) NB599_0.out (by simp)) (KeepBut.trans tK hk (.inl rfl)) hb hi ?_; clear HO_7 BK599 HK HB HI0; intro HO_7 BK599 HK HB HI0; (try clear hb); (try clear hb2); (try clear hk); (try clear hi)) | ((with_reducible refine gate_builtin (b := .append) (xs := #[.tmp 18, .tmp 23]) rfl ?_); at_builtin; refine Kd.R_append (Kd.int .i64) w.heap.size rfl (.tmp 18) (.tmp 23) 24 2 (.int .i64 0) 8 rfl Try.underlying24 info2 rfl (by decide) (by omega) u7 x7_1 t607 [.int .i64 t607] (fun _ => True) (fun _ => False) rfl rfl ?aP (fun _ hk => hk.elim) ?aF ?aO (Below.refl _ _) ?aS ?aL ?_; (case aP => exact rfl); (case aF => exact (fun _ _ => trivial)); (case aO => exact (tR HO_7.out)); (case aS => exact (keep_size (w := w) (g := g) (row := none) tK)); (case aL => have := LMc12.out; omega); intro v611 w17 ho hb hg hat; rw [← Ny610.out] at ho; refine qM5 (blk_grown (g := gb599) (o := .cells #[.int .i64 a1_0, .int .i64 a1_1] 27 (0, 0)) (tG BK599.out) hg (Kd.R_ne HO_7.out BK599.out (by decide))) (IsS76.grown tI hg (IsS76.own_ne HI0.out HO_7.out (by decide))) (below_weaken tB HL.out hb) (KeepBut.trans tK (KeepBut.of_grown hg g) (Kd.R_base2 HO_7.out)) ho ?_; clear BK599 HI0 HB HK HO_7; intro BK599 HI0 HB HK HO612; clear ho hb hg hat))
  go_roundg k1
  case measure => have := HK1.out; omega
  case rel => exact ⟨(y610), (wrap64 (x8_1 - 1)), (t608), (t609), tS, H', ⟨by have := HK1.out; omega⟩, ⟨tR HO612.out⟩, ⟨tG BK599.out⟩, ⟨tI⟩, ⟨tK⟩, ⟨tB⟩⟩
def spec_A2Linear.f (k : Nat) (l0 : List Int) (a1_0 : Int) (a1_1 : Int) (a2 : Int) : Option (List Int) := (spec_l00From.f l0).bind fun bt617 => ((spec_l03Drawn.f k bt617.1 bt617.2.1 bt617.2.2 a1_0 a1_1 a2).bind fun bt621 => (some bt621.1))
theorem spec_A2Linear.mono : ∀ a0 a1 a2 a3 k, LeO (spec_A2Linear.f k a0 a1 a2 a3) (spec_A2Linear.f (k + 1) a0 a1 a2 a3) := by
 intro a0 a1 a2 a3 k
 unfold spec_A2Linear.f
 repeat' first
  | (with_reducible first | apply spec_l03Drawn.mono | exact LeO.refl _ | exact LeO.none _ | refine LeO.ite ?_ ?_ | refine LeO.bind ?_ (fun _ => ?_))
  | exact LeO.none _
  | refine LeO.ite ?_ ?_
  | refine LeO.bind ?_ (fun _ => ?_)
theorem spec_A2Linear.calls (k : Nat) (A0 : Option Addr) (c0 : Nat) (l0 : List Int) (a1_0 : Int) (a1_1 : Int) (a2 : Int) (r : List Int) (w : World) (hr0 : Kd.C (Kd.int .u8) w A0 l0.length l0) (hc0 : l0.length ≤ c0) (h : spec_A2Linear.f k l0 a1_0 a1_1 a2 = some r) :
 Calls Try.prog 19 #[.slice A0 l0.length c0, .agg #[.int .i64 a1_0, .int .i64 a1_1], .int .i64 a2] w fun e w' => ∃ v0_ : Value, e = .returned (v0_) ∧ Kd.R (Kd.int .i64) 2 w' w.heap.size (fun _ => True) v0_ r ∧ Below w.heap.size w w' := by
 have hu27 := Try.underlying27
 have HR0 := Aq.mk hr0
 have HC0 := Aq.mk hc0
 clear hr0 hc0
 have HB := Aq.mk (Below.refl w.heap.size w)
 have H : ((spec_l00From.f l0).bind fun bt617 => ((spec_l03Drawn.f k bt617.1 bt617.2.1 bt617.2.2 a1_0 a1_1 a2).bind fun bt621 => (some bt621.1))) = some r := h
 clear h
 obtain ⟨⟨t617, t618, t619⟩, A4, H⟩ := qBd H
 (try dsimp only at H)
 obtain ⟨⟨t621, t624, t625⟩, A5, H⟩ := qBd H
 (try dsimp only at H)
 obtain rfl := Option.some.inj H
 go_enter Try.func19, Try.ntmps19
 try go_wp2_with (first | ((with_reducible refine gQd (N := 4) rfl ?_); refine xQe ?hg (N := 4) ?hd (cs := #[.int .i64 a1_0, .int .i64 a1_1]) (t := 27) ?hr ?_; (case hd => rfl); (case hg => rfl); (case hr => exact tH); intro gb616 hg w6 hbox hb; refine qM4 (bQT tB hb) hbox (tZ w hg) (tZ w hg) ?_; clear HB; intro HB BK616 GW616 GE616; clear hb hbox hg))
 have n0_ := Aq.mk (kQD BK616.out)
 have n1_ := Aq.mk (bQ1 HB.out)
 clear BK616
 clear HB
 have BK616 := n0_
 have HB := n1_
 clear n0_ n1_
 refine start_ (n := 6) (S := fun w' => w'.cell? ⟨gb616, 0, none⟩ = some (.int .i64 a1_0) ∧ w'.cell? ⟨gb616, 1, none⟩ = some (.int .i64 a1_1)) (ds := []) #[false, false, false, false, false, false] (by kernel_rfl) rfl rfl ⟨(kQC BK616.out 0).trans rfl, (kQC BK616.out 1).trans rfl⟩ (fun hHeld => ?_)
 generalize w6.drew = w7 at BK616 HB hHeld ⊢
 refine tP0k 0 7 (bm 6 1) ?_
 refine tP0k 3 10 (bm 6 9) ?_
 refine tT2k 2 9 (bm 6 13) ?_
 refine one_ (i := 1) (N := some 8) (bm 6 15) rfl rfl (by kernel_rfl) (by decide) (fun K hK => ?_)
 refine goes_ Try.func37 (by kernel_rfl) rfl #[.slice A0 l0.length c0] (by rfl) rfl rfl tL ?_
 with_reducible refine (spec_l00From.calls _ _ l0 t617 t618 t619 w _ ?s1 ?s2 ?s3 A4.out).mono ?_
 (case s1 => exact tB)
 (case s2 => exact HR0.out)
 (case s3 => exact HC0.out)
 rintro e w8 ⟨g620, rfl, hi, hb, hb2⟩
 refine ⟨_, rfl, ?_⟩
 have n0_ := Aq.mk (kQB (g := gb616) (o := .cells #[.int .i64 a1_0, .int .i64 a1_1] 27 (0, 0)) (tG BK616.out) hb2)
 have n1_ := Aq.mk (hb)
 have n2_ := Aq.mk (hi)
 have n3_ := Aq.mk (IsS76.ne_blk hi (kQB (g := gb616) (o := .cells #[.int .i64 a1_0, .int .i64 a1_1] 27 (0, 0)) (tG BK616.out) hb2) (by decide))
 have n4_ := Aq.mk (Ne.symm (IsS76.ne_blk hi (kQB (g := gb616) (o := .cells #[.int .i64 a1_0, .int .i64 a1_1] 27 (0, 0)) (tG BK616.out) hb2) (by decide)))
 clear BK616
 clear HB
 have BK616 := n0_
 have HB := n1_
 have HI620 := n2_
 have NB620_616 := n3_
 have NB616_620 := n4_
 clear n0_ n1_ n2_ n3_ n4_
 (try clear hb)
 (try clear hb2)
 (try clear hk)
 (try clear hi)
 refine hK.out _ _ ⟨(kQC BK616.out 0).trans rfl, (kQC BK616.out 1).trans rfl⟩ (fun hHeld => ?_)
 clear hK K
 refine tN 8 ?_
 refine one_ (i := 4) (N := some 11) (bm 6 31) rfl rfl (by kernel_rfl) (by decide) (fun K hK => ?_)
 refine goes_ Try.func38 (by kernel_rfl) rfl #[.pointer (some ⟨g620, 0, none⟩), .agg #[.int .i64 a1_0, .int .i64 a1_1], .int .i64 a2] (by rfl) rfl rfl tL ?_
 with_reducible refine (spec_l03Drawn.calls k g620 t617 t618 t619 a1_0 a1_1 a2 t621 t624 t625 w _ ?s1 ?s2 A5.out).mono ?_
 (case s1 => repeat (first | (with_reducible first | exact HI620.out | apply IsS76.alloc | apply IsS76.drewN | apply IsS76.drew | apply IsS76.set_1 | apply IsS76.set_2 | refine IsS76.far ?_ NB620_616.out _) | exact HI620.out))
 (case s2 => repeat (first | (with_reducible first | exact HB.out | apply bQA | apply bQN | apply bQ1 | refine bQS ?_ (IsS76.ge HI620.out) | refine bQS ?_ GE616.out) | exact HB.out))
 rintro e w9 ⟨v622, rfl, ho0, hi, hb, hk⟩
 refine ⟨_, rfl, ?_⟩
 have n0_ := Aq.mk (KeepBut.blk hk (g' := gb616) (o := .cells #[.int .i64 a1_0, .int .i64 a1_1] 27 (0, 0)) (tG BK616.out) NB616_620.out (by simp))
 have n1_ := Aq.mk (Kd.R_lower ho0 (bQZ (by repeat (first | (with_reducible first | exact HB.out | apply bQA | apply bQN | apply bQ1 | refine bQS ?_ (IsS76.ge HI620.out) | refine bQS ?_ GE616.out) | exact HB.out))))
 have n2_ := Aq.mk (hb)
 have n3_ := Aq.mk (hi)
 clear BK616
 clear HB
 clear HI620
 have BK616 := n0_
 have HO623 := n1_
 have HB := n2_
 have HI620 := n3_
 clear n0_ n1_ n2_ n3_
 (try clear hb)
 (try clear hb2)
 (try clear hk)
 (try clear hi)
 (try clear ho0)
 refine hK.out _ _ ⟨(kQC BK616.out 0).trans rfl, (kQC BK616.out 1).trans rfl⟩ (fun hHeld => ?_)
 clear hK K
 refine tN 11 ?_
 refine tP0k 5 6 (bm 6 63) ?_
 refine done_ (by kernel_rfl) ?_
 try go_wp2
 go_ret
 exact ⟨_, tE, tR HO623.out, by repeat (first | (with_reducible first | exact HB.out | apply bQA | apply bQN | apply bQ1 | refine bQS ?_ (IsS76.ge HI620.out) | refine bQS ?_ GE616.out) | exact HB.out)⟩
end Go.Proofs.Ytkhjoomjjdgkjaa.P
