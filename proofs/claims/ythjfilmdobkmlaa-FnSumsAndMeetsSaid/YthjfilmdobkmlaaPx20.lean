/- Functions of the program and what they tell, as the printing program wrote it. -/
import Derived.Test.YthjfilmdobkmlaaPx0
import Derived.Test.YthjfilmdobkmlaaPx4
import Derived.Test.YthjfilmdobkmlaaPx5
import Derived.Test.YthjfilmdobkmlaaPx7
import Derived.Test.YthjfilmdobkmlaaPx8
import Derived.Test.YthjfilmdobkmlaaPx9
import Derived.Test.YthjfilmdobkmlaaPx11
namespace Go.Proofs.Ythjfilmdobkmlaa.P
open Go.Shelf Go.RowKit Go.Proofs.YthjfilmdobkmlaaW.PrintWords Go.Proofs.YthjfilmdobkmlaaW.PrintLast Go.Proofs.YthjfilmdobkmlaaW.PrintMore
attribute [local go_sem] max2_int min2_int max_two min_two max_three min_three max_four min_four
set_option linter.unusedVariables false
set_option linter.unusedSimpArgs false
set_option maxHeartbeats 8000000
set_option maxRecDepth 100000
def spec_A2Space.f (k : Nat) (l0 : List Int) (a1 : Int) : Option (Int × List Int) := (spec_l00From.f l0).bind fun bt408 => ((spec_l02Drawn.f k bt408.1 bt408.2.1 bt408.2.2 a1 4).bind fun bt412 => ((spec_l02Echelon.f k a1 bt412.2.1).bind fun t419 => (some (a1, t419))))
theorem spec_A2Space.mono : ∀ a0 a1 k, LeO (spec_A2Space.f k a0 a1) (spec_A2Space.f (k + 1) a0 a1) := by
 intro a0 a1 k
 unfold spec_A2Space.f
 repeat' first
  | (with_reducible first | apply spec_l02Drawn.mono | apply spec_l02Echelon.mono | exact LeO.refl _ | exact LeO.none _ | refine LeO.ite ?_ ?_ | refine LeO.bind ?_ (fun _ => ?_))
  | exact LeO.none _
  | refine LeO.ite ?_ ?_
  | refine LeO.bind ?_ (fun _ => ?_)
theorem spec_A2Space.calls (k : Nat) (A0 : Option Addr) (c0 : Nat) (l0 : List Int) (a1 : Int) (r1 : Int) (r2 : List Int) (w : World) (hr0 : Kd.C (Kd.int .u8) w A0 l0.length l0) (hc0 : l0.length ≤ c0) (h : spec_A2Space.f k l0 a1 = some (r1, r2)) :
 Calls Try.prog 20 #[.slice A0 l0.length c0, .int .i64 a1] w fun e w' => ∃ v1_ : Value, e = .returned (.agg #[.int .i64 r1, v1_]) ∧ Kd.R (Kd.int .i64) 2 w' w.heap.size (fun _ => True) v1_ r2 ∧ Below w.heap.size w w' := by
 have hu27 := Try.underlying27
 have HR0 := Aq.mk hr0
 have HC0 := Aq.mk hc0
 clear hr0 hc0
 have HB := Aq.mk (Below.refl w.heap.size w)
 have H : ((spec_l00From.f l0).bind fun bt408 => ((spec_l02Drawn.f k bt408.1 bt408.2.1 bt408.2.2 a1 4).bind fun bt412 => ((spec_l02Echelon.f k a1 bt412.2.1).bind fun t419 => (some (a1, t419))))) = some (r1, r2) := h
 clear h
 obtain ⟨⟨t408, t409, t410⟩, A3, H⟩ := qBd H
 (try dsimp only at H)
 obtain ⟨⟨t412, t413, t416, t417⟩, A4, H⟩ := qBd H
 (try dsimp only at H)
 obtain ⟨t419, A5, H⟩ := qBd H
 simp only [Option.some.injEq, Prod.mk.injEq] at H
 obtain ⟨rfl, rfl⟩ := H
 go_enter Try.func20, Try.ntmps20
 go_wp2_with (first | ((with_reducible refine gQd (N := 4) rfl ?_); refine xQe ?hg (N := 4) ?hd (cs := #[.int .i64 0, .slice none 0 0]) (t := 27) ?hr ?_; (case hd => rfl); (case hg => rfl); (case hr => exact tH); intro gb407 hg w6 hbox hb; refine qM4 (bQT tB hb) hbox (tZ w hg) (tZ w hg) ?_; clear HB; intro HB BK407 GW407 GE407; clear hb hbox hg) | ((with_reducible refine gQc (f := 39) rfl ?_); refine goesL_ (some 7) rfl rfl Try.func39 (by kernel_rfl) rfl #[.slice A0 l0.length c0] rfl tL ?_; (with_reducible refine (spec_l00From.calls _ _ l0 t408 t409 t410 w _ ?s1 ?s2 ?s3 A3.out).mono ?_); (case s1 => exact tB); (case s2 => exact HR0.out); (case s3 => exact HC0.out); rintro e w7 ⟨g411, rfl, hi, hb, hb2⟩; refine ⟨_, rfl, ?_⟩; refine qM5 (kQB (g := gb407) (o := .cells #[.int .i64 0, .slice none 0 0] 27 (0, 0)) (tG BK407.out) hb2) hb hi (IsS93.ne_blk hi (kQB (g := gb407) (o := .cells #[.int .i64 0, .slice none 0 0] 27 (0, 0)) (tG BK407.out) hb2) (by decide)) (Ne.symm (IsS93.ne_blk hi (kQB (g := gb407) (o := .cells #[.int .i64 0, .slice none 0 0] 27 (0, 0)) (tG BK407.out) hb2) (by decide))) ?_; clear BK407 HB; intro BK407 HB HI411 NB411_407 NB407_411; (try clear hb); (try clear hb2); (try clear hk); (try clear hi)) | ((with_reducible refine gQc (f := 38) rfl ?_); refine goesL_ (some 9) rfl rfl Try.func38 (by kernel_rfl) rfl #[.pointer (some ⟨g411, 0, none⟩), .int .i64 a1, .int .i64 4] rfl tL ?_; (with_reducible refine (spec_l02Drawn.calls k g411 t408 t409 t410 a1 4 t412 t413 t416 t417 w _ ?s1 ?s2 A4.out).mono ?_); (case s1 => repeat (first | (with_reducible first | exact HI411.out | apply IsS93.alloc | apply IsS93.drewN | apply IsS93.drew | apply IsS93.set_1 | apply IsS93.set_2 | refine IsS93.far ?_ NB411_407.out _) | exact HI411.out)); (case s2 => repeat (first | (with_reducible first | exact HB.out | apply bQA | apply bQN | apply bQ1 | refine bQS ?_ (IsS93.ge HI411.out) | refine bQS ?_ GE407.out) | exact HB.out)); rintro e w8 ⟨v414, rfl, ho0, hi, hb, hk⟩; refine ⟨_, rfl, ?_⟩; refine qM4 (KeepBut.blk hk (g' := gb407) (o := .cells #[.int .i64 0, .slice none 0 0] 27 (0, 0)) (tG BK407.out) NB407_411.out (by simp)) (Kd.R_lower ho0 (bQZ (by repeat (first | (with_reducible first | exact HB.out | apply bQA | apply bQN | apply bQ1 | refine bQS ?_ (IsS93.ge HI411.out) | refine bQS ?_ GE407.out) | exact HB.out)))) hb hi ?_; clear BK407 HB HI411; intro BK407 HO415 HB HI411; (try clear hb); (try clear hb2); (try clear hk); (try clear hi); (try clear ho0)) | ((with_reducible refine gQd (N := 5) rfl ?_); refine xQe ?hg (N := 5) ?hd (cs := #[.int .i64 0, .slice none 0 0]) (t := 27) ?hr ?_; (case hd => rfl); (case hg => rfl); (case hr => exact tH); intro gb418 hg w9 hbox hb; refine qM11 (Kd.R_below (tR HO415.out) hb) (tQ BK407.out hb) (IsS93.below (by repeat (first | (with_reducible first | exact HI411.out | apply IsS93.alloc | apply IsS93.drewN | apply IsS93.drew | apply IsS93.set_1 | apply IsS93.set_2 | refine IsS93.far ?_ NB411_407.out _) | exact HI411.out)) hb) (bQT (by repeat (first | (with_reducible first | exact HB.out | apply bQA | apply bQN | apply bQ1 | refine bQS ?_ (IsS93.ge HI411.out) | refine bQS ?_ GE407.out) | exact HB.out)) hb) hbox ((by rw [hg]; exact (bQZ (by repeat (first | (with_reducible first | exact HB.out | apply bQA | apply bQN | apply bQ1 | refine bQS ?_ (IsS93.ge HI411.out) | refine bQS ?_ GE407.out) | exact HB.out))) : w.heap.size ≤ gb418)) ((by rw [hg]; exact (bQZ (by repeat (first | (with_reducible first | exact HB.out | apply bQA | apply bQN | apply bQ1 | refine bQS ?_ (IsS93.ge HI411.out) | refine bQS ?_ GE407.out) | exact HB.out))) : w.heap.size ≤ gb418)) ((by rw [hg]; exact Nat.ne_of_lt (blk_lt (g := gb407) (o := .cells #[.int .i64 0, .slice none 0 0] 27 (0, 0)) (tG BK407.out)) : gb407 ≠ gb418)) ((by rw [hg]; exact Nat.ne_of_gt (blk_lt (g := gb407) (o := .cells #[.int .i64 0, .slice none 0 0] 27 (0, 0)) (tG BK407.out)) : gb418 ≠ gb407)) ((by rw [hg]; exact Nat.ne_of_lt (IsS93.lt (show IsS93 w _ g411 t408 t416 t417 from by repeat (first | (with_reducible first | exact HI411.out | apply IsS93.alloc | apply IsS93.drewN | apply IsS93.drew | apply IsS93.set_1 | apply IsS93.set_2 | refine IsS93.far ?_ NB411_407.out _) | exact HI411.out))) : g411 ≠ gb418)) ((by rw [hg]; exact Nat.ne_of_gt (IsS93.lt (show IsS93 w _ g411 t408 t416 t417 from by repeat (first | (with_reducible first | exact HI411.out | apply IsS93.alloc | apply IsS93.drewN | apply IsS93.drew | apply IsS93.set_1 | apply IsS93.set_2 | refine IsS93.far ?_ NB411_407.out _) | exact HI411.out))) : gb418 ≠ g411)) ?_; clear HO415 BK407 HI411 HB; intro HO415 BK407 HI411 HB BK418 GW418 GE418 NB407_418 NB418_407 NB411_418 NB418_411; clear hb hbox hg; have hnb10 := NB418_407.out; have hnc10 := NB407_418.out; have hnb11 := NB418_411.out; have hnc11 := NB411_418.out; have hcz12_0 : w9.cell? ⟨gb418, 0, none⟩ = some (.int .i64 0) := (kQC BK418.out 0).trans rfl; have hcz12_1 : w9.cell? ⟨gb418, 1, none⟩ = some (.slice none 0 0) := (kQC BK418.out 1).trans rfl; have hfz12_0 := kQF BK418.out 0; have hfz12_1 := kQF BK418.out 1; obtain ⟨Ao13, co13, eo13⟩ := Kd.R_slice HO415.out; subst eo13) | ((with_reducible refine gQc (f := 56) rfl ?_); refine goesL_ (some 14) rfl rfl Try.func56 (by kernel_rfl) rfl #[.int .i64 a1, .slice Ao13 t413.length co13] rfl tL ?_; (with_reducible refine (spec_l02Echelon.calls k a1 _ _ t413 t419 _ ?s1 ?s2 A5.out).mono ?_); (case s1 => refine (Kd.R_reads' (e := 2) (base := w.heap.size) (ok := fun k_ => True) (n := t413.length) (c := co13) ?_).2.2; exact (by (with_reducible repeat (first | apply Kd.RqA | apply Kd.RqN | apply Kd.RqD)); exact (Kd.R_mono (Kd.R_far (p := ⟨gb418, 1, none⟩) (Kd.R_far (p := ⟨gb418, 0, none⟩) (Kd.R_types HO415.out BK418.out (by decide)) (fun _ hk => hk.2) (.int .i64 t412)) (fun _ hk => hk.2) (.slice Ao13 t413.length co13)) (fun _ h_ => h_.1)))); (case s2 => exact (Kd.R_reads' HO415.out).2.1); rintro e w14 ⟨v420, rfl, ho0, hb⟩; refine ⟨_, rfl, ?_⟩; refine qM6 (Kd.R_elder' (by (with_reducible repeat (first | apply Kd.RqA | apply Kd.RqN | apply Kd.RqD)); exact (Kd.R_mono (Kd.R_far (p := ⟨gb418, 1, none⟩) (Kd.R_far (p := ⟨gb418, 0, none⟩) (Kd.R_types HO415.out BK418.out (by decide)) (fun _ hk => hk.2) (.int .i64 t412)) (fun _ hk => hk.2) (.slice Ao13 t413.length co13)) (fun _ h_ => h_.1))) (Kd.R_base ho0) hb) (Kd.R_lower (Kd.R_new' ho0 (Kd.R_lt (by (with_reducible repeat (first | apply Kd.RqA | apply Kd.RqN | apply Kd.RqD)); exact (Kd.R_mono (Kd.R_far (p := ⟨gb418, 1, none⟩) (Kd.R_far (p := ⟨gb418, 0, none⟩) (Kd.R_types HO415.out BK418.out (by decide)) (fun _ hk => hk.2) (.int .i64 t412)) (fun _ hk => hk.2) (.slice Ao13 t413.length co13)) (fun _ h_ => h_.1))))) (bQZ (by repeat (first | (with_reducible first | exact HB.out | apply bQA | apply bQN | apply bQ1 | refine bQS ?_ (IsS93.ge HI411.out) | refine bQS ?_ GE407.out | refine bQS ?_ GE418.out) | exact HB.out)))) (kQB (g := gb407) (o := .cells #[.int .i64 0, .slice none 0 0] 27 (0, 0)) (by (with_reducible repeat (first | refine kQN ?_ _ | refine kQD ?_ | refine kQA ?_ _)); refine kQR ?_ NB407_418.out _; (with_reducible repeat (first | refine kQN ?_ _ | refine kQD ?_ | refine kQA ?_ _)); refine kQR ?_ NB407_418.out _; (with_reducible repeat (first | refine kQN ?_ _ | refine kQD ?_ | refine kQA ?_ _)); exact BK407.out) hb) (IsS93.below (show IsS93 w ((w9.setCell ⟨gb418, 0, none⟩ (.int .i64 t412)).setCell ⟨gb418, 1, none⟩ (.slice Ao13 t413.length co13)) g411 t408 t416 t417 from by repeat (first | (with_reducible first | exact HI411.out | apply IsS93.alloc | apply IsS93.drewN | apply IsS93.drew | apply IsS93.set_1 | apply IsS93.set_2 | refine IsS93.far ?_ NB411_407.out _ | refine IsS93.far ?_ NB411_418.out _) | exact HI411.out)) hb) (kQB (g := gb418) (o := .cells #[.int .i64 t412, .slice Ao13 t413.length co13] 27 (0, 0)) (by (with_reducible repeat (first | refine kQN ?_ _ | refine kQD ?_ | refine kQA ?_ _)); refine kQP (cs := #[.int .i64 t412, .slice none 0 0]) ?_ 1 _ rfl; (with_reducible repeat (first | refine kQN ?_ _ | refine kQD ?_ | refine kQA ?_ _)); refine kQP (cs := #[.int .i64 0, .slice none 0 0]) ?_ 0 _ rfl; (with_reducible repeat (first | refine kQN ?_ _ | refine kQD ?_ | refine kQA ?_ _)); exact BK418.out) hb) (bQT (by repeat (first | (with_reducible first | exact HB.out | apply bQA | apply bQN | apply bQ1 | refine bQS ?_ (IsS93.ge HI411.out) | refine bQS ?_ GE407.out | refine bQS ?_ GE418.out) | exact HB.out)) hb) ?_; clear HO415 BK407 HI411 BK418 HB; intro HO415 HO421 BK407 HI411 BK418 HB; (try clear hb); (try clear hb2); (try clear hk); (try clear hi); (try clear ho0); obtain ⟨Ao15, co15, eo15⟩ := Kd.R_slice HO421.out; subst eo15; have hnb16 := NB407_411.out; have hnc16 := NB411_407.out; have hcz17_0 : w14.cell? ⟨gb407, 0, none⟩ = some (.int .i64 0) := (kQC BK407.out 0).trans rfl; have hcz17_1 : w14.cell? ⟨gb407, 1, none⟩ = some (.slice none 0 0) := (kQC BK407.out 1).trans rfl; have hfz17_0 := kQF BK407.out 0; have hfz17_1 := kQF BK407.out 1))
 refine bodyPost_ret (results_cell_row rfl _ _ gb407 27 #[.int .i64 a1, .slice Ao15 t419.length co15] (0, 0) _ rfl (by (with_reducible repeat (first | refine kQN ?_ _ | refine kQD ?_ | refine kQA ?_ _)); refine kQP (cs := #[.int .i64 a1, .slice none 0 0]) ?_ 1 _ rfl; (with_reducible repeat (first | refine kQN ?_ _ | refine kQD ?_ | refine kQA ?_ _)); refine kQP (cs := #[.int .i64 0, .slice none 0 0]) ?_ 0 _ rfl; (with_reducible repeat (first | refine kQN ?_ _ | refine kQD ?_ | refine kQA ?_ _)); exact BK407.out) Try.underlying27 rfl (by kernel_rfl)) rfl ?_
 exact ⟨_, tE, by (with_reducible repeat (first | apply Kd.RqA | apply Kd.RqN | apply Kd.RqD)); exact Kd.R_mono (Kd.R_far (p := ⟨gb407, 1, none⟩) (Kd.R_far (p := ⟨gb407, 0, none⟩) (Kd.R_types HO421.out BK407.out (by decide)) (fun _ hk => hk.2) (.int .i64 a1)) (fun _ hk => hk.2) (.slice Ao15 t419.length co15)) (fun _ hk => trivial), by repeat (first | (with_reducible first | exact HB.out | apply bQA | apply bQN | apply bQ1 | refine bQS ?_ (IsS93.ge HI411.out) | refine bQS ?_ GE407.out | refine bQS ?_ GE418.out) | exact HB.out)⟩
def impl_spacesCode.j0 : Nat → Bool → Int → List Int → Int → List Int → Option (Int)
  | 0, _, _, _, _, _ => none
  | k + 1, x5, x423000, x423001, x424000, x424001 => if x5 = true then (some 1) else (if x423000 = x424000 then (some 0) else (some 2))
def impl_spacesCode.f (k : Nat) (a0_0 : Int) (l0_1 : List Int) (a1_0 : Int) (l1_1 : List Int) : Option (Int) := (impl_IsSpace.f k a0_0 l0_1).bind fun t424 => (if t424 = true then ((impl_IsSpace.f k a1_0 l1_1).bind fun t425 => (impl_spacesCode.j0 k (!t425) a0_0 l0_1 a1_0 l1_1)) else (impl_spacesCode.j0 k true a0_0 l0_1 a1_0 l1_1))
theorem impl_spacesCode.mono_l : ∀ k, (∀ y0 y1 y2 y3 y4, LeO (impl_spacesCode.j0 k y0 y1 y2 y3 y4) (impl_spacesCode.j0 (k + 1) y0 y1 y2 y3 y4))
 | 0 => fun _ _ _ _ _ r h => by simp [impl_spacesCode.j0] at h
 | k + 1 => by
  have ih0 := impl_spacesCode.mono_l k
  ·intro y0 y1 y2 y3 y4
   unfold impl_spacesCode.j0
   repeat' first
   | (with_reducible first | apply ih0 | apply impl_IsSpace.mono | exact LeO.refl _ | exact LeO.none _ | refine LeO.ite ?_ ?_ | refine LeO.bind ?_ (fun _ => ?_))
   | exact LeO.none _
   | refine LeO.ite ?_ ?_
   | refine LeO.bind ?_ (fun _ => ?_)
theorem impl_spacesCode.mono : ∀ a0 a1 a2 a3 k, LeO (impl_spacesCode.f k a0 a1 a2 a3) (impl_spacesCode.f (k + 1) a0 a1 a2 a3) := by
 intro a0 a1 a2 a3 k
 have ih0 := impl_spacesCode.mono_l k
 unfold impl_spacesCode.f
 repeat' first
  | (with_reducible first | apply ih0 | apply impl_IsSpace.mono | exact LeO.refl _ | exact LeO.none _ | refine LeO.ite ?_ ?_ | refine LeO.bind ?_ (fun _ => ?_))
  | exact LeO.none _
  | refine LeO.ite ?_ ?_
  | refine LeO.bind ?_ (fun _ => ?_)
theorem impl_spacesCode.calls (k : Nat) (a0_0 : Int) (A0_1 : Option Addr) (c0_1 : Nat) (l0_1 : List Int) (a1_0 : Int) (A1_1 : Option Addr) (c1_1 : Nat) (l1_1 : List Int) (r : Int) (w : World) (hr0_1 : Kd.C (Kd.int .i64) w A0_1 l0_1.length l0_1) (hc0_1 : l0_1.length ≤ c0_1) (hr1_1 : Kd.C (Kd.int .i64) w A1_1 l1_1.length l1_1) (hc1_1 : l1_1.length ≤ c1_1) (h : impl_spacesCode.f k a0_0 l0_1 a1_0 l1_1 = some r) :
 Calls Try.prog 57 #[.agg #[.int .i64 a0_0, .slice A0_1 l0_1.length c0_1], .agg #[.int .i64 a1_0, .slice A1_1 l1_1.length c1_1]] w fun e w' => e = .returned (.int .i64 r) ∧ Below w.heap.size w w' := by
 have hu27 := Try.underlying27
 have HR0_1 := Aq.mk hr0_1
 have HC0_1 := Aq.mk hc0_1
 clear hr0_1 hc0_1
 have HR1_1 := Aq.mk hr1_1
 have HC1_1 := Aq.mk hc1_1
 clear hr1_1 hc1_1
 have HB := Aq.mk (Below.refl w.heap.size w)
 have H : ((impl_IsSpace.f k a0_0 l0_1).bind fun t424 => (if t424 = true then ((impl_IsSpace.f k a1_0 l1_1).bind fun t425 => (impl_spacesCode.j0 k (!t425) a0_0 l0_1 a1_0 l1_1)) else (impl_spacesCode.j0 k true a0_0 l0_1 a1_0 l1_1))) = some r := h
 clear h
 have HC3 := Aq.mk H
 clear H
 go_enter Try.func57, Try.ntmps57
 go_upto_region 1 with (first | ((with_reducible refine gQd (N := 2) rfl ?_); refine xQe ?hg (N := 2) ?hd (cs := #[.int .i64 a0_0, .slice A0_1 l0_1.length c0_1]) (t := 27) ?hr ?_; (case hd => rfl); (case hg => rfl); (case hr => exact tH); intro gb422 hg w4 hbox hb; refine qM4 (bQT tB hb) hbox (tZ w hg) (tZ w hg) ?_; clear HB; intro HB BK422 GW422 GE422; clear hb hbox hg) | ((with_reducible refine gQd (N := 3) rfl ?_); refine xQe ?hg (N := 3) ?hd (cs := #[.int .i64 a1_0, .slice A1_1 l1_1.length c1_1]) (t := 27) ?hr ?_; (case hd => rfl); (case hg => rfl); (case hr => exact tH); intro gb423 hg w5 hbox hb; refine qM7 (tQ BK422.out hb) (bQT tB hb) hbox (tZ w hg) (tZ w hg) ((by rw [hg]; exact Nat.ne_of_lt (blk_lt (g := gb422) (o := .cells #[.int .i64 a0_0, .slice A0_1 l0_1.length c0_1] 27 (0, 0)) (tG BK422.out)) : gb422 ≠ gb423)) ((by rw [hg]; exact Nat.ne_of_gt (blk_lt (g := gb422) (o := .cells #[.int .i64 a0_0, .slice A0_1 l0_1.length c0_1] 27 (0, 0)) (tG BK422.out)) : gb423 ≠ gb422)) ?_; clear BK422 HB; intro BK422 HB BK423 GW423 GE423 NB422_423 NB423_422; clear hb hbox hg))
 (try simp only [Act.put, qSa, qSb, qSc])
 go_cut [5] (fun v5 wc => ∃ (kq : Nat) (x5_2 : Bool), v5 = .bool x5_2 ∧ Aq (impl_spacesCode.j0 kq x5_2 a0_0 l0_1 a1_0 l1_1 = some r) ∧ Aq (kq ≤ k) ∧ Aq (wc.heap[gb422]? = some (.cells #[.int .i64 a0_0, (.slice A0_1 l0_1.length c0_1)] 27 (0, 0))) ∧ Aq (wc.heap[gb423]? = some (.cells #[.int .i64 a1_0, (.slice A1_1 l1_1.length c1_1)] 27 (0, 0))) ∧ Aq (Below w.heap.size w wc))
 case first =>
  have H := HC3.out
  clear HC3
  obtain ⟨t424, A6, H⟩ := qBd H
  by_cases c7 : t424 = true
  ·subst c7
   rw [if_pos rfl] at H
   obtain ⟨t425, A8, H⟩ := qBd H
   replace H' := Aq.mk H
   clear H
   have hnb9 := NB422_423.out
   have hnc9 := NB423_422.out
   have hcz10_0 : w5.cell? ⟨gb422, 0, none⟩ = some (.int .i64 a0_0) := (kQC BK422.out 0).trans rfl
   have hcz10_1 : w5.cell? ⟨gb422, 1, none⟩ = some (.slice A0_1 l0_1.length c0_1) := (kQC BK422.out 1).trans rfl
   have hfz10_0 := kQF BK422.out 0
   have hfz10_1 := kQF BK422.out 1
   go_wp2_with (first | ((with_reducible refine gQc (f := 13) rfl ?_); refine goesL_ (some 7) rfl rfl Try.func13 (by kernel_rfl) rfl #[.agg #[.int .i64 a0_0, .slice A0_1 l0_1.length c0_1]] rfl tL ?_; (with_reducible refine (impl_IsSpace.calls k a0_0 _ _ l0_1 true _ ?s1 ?s2 A6.out).mono ?_); (case s1 => exact tC ((Kd.C_below HR0_1.out HB.out))); (case s2 => exact HC0_1.out); rintro e w11 ⟨rfl, hb⟩; refine ⟨_, rfl, ?_⟩; refine qM3 (tQ BK422.out hb) (tQ BK423.out hb) (bQT tB hb) ?_; clear BK422 BK423 HB; intro BK422 BK423 HB; (try clear hb); (try clear hb2); (try clear hk); (try clear hi); have hcz12_0 : w11.cell? ⟨gb423, 0, none⟩ = some (.int .i64 a1_0) := (kQC BK423.out 0).trans rfl; have hcz12_1 : w11.cell? ⟨gb423, 1, none⟩ = some (.slice A1_1 l1_1.length c1_1) := (kQC BK423.out 1).trans rfl; have hfz12_0 := kQF BK423.out 0; have hfz12_1 := kQF BK423.out 1) | (go_at_call 13; (with_reducible refine (impl_IsSpace.calls k a1_0 _ _ l1_1 t425 _ ?s1 ?s2 A8.out).mono ?_); (case s1 => exact tC ((Kd.C_below HR1_1.out HB.out))); (case s2 => exact HC1_1.out); rintro e w13 ⟨rfl, hb⟩; refine qM3 (tQ BK422.out hb) (tQ BK423.out hb) (bQT tB hb) ?_; clear BK422 BK423 HB; intro BK422 BK423 HB; (try clear hb); (try clear hb2); (try clear hk); (try clear hi)))
   go_meet
   case rel => exact ⟨_, (!t425), tS, H', ⟨tO⟩, ⟨tG BK422.out⟩, ⟨tG BK423.out⟩, ⟨tB⟩⟩
  replace c7 := Bool.eq_false_iff.mpr c7
  subst c7
  rw [if_neg (show ¬ (false = true) by decide)] at H
  replace H' := Aq.mk H
  clear H
  have hnb14 := NB422_423.out
  have hnc14 := NB423_422.out
  have hcz15_0 : w5.cell? ⟨gb422, 0, none⟩ = some (.int .i64 a0_0) := (kQC BK422.out 0).trans rfl
  have hcz15_1 : w5.cell? ⟨gb422, 1, none⟩ = some (.slice A0_1 l0_1.length c0_1) := (kQC BK422.out 1).trans rfl
  have hfz15_0 := kQF BK422.out 0
  have hfz15_1 := kQF BK422.out 1
  go_wp2_with (first | ((with_reducible refine gQc (f := 13) rfl ?_); refine goesL_ (some 7) rfl rfl Try.func13 (by kernel_rfl) rfl #[.agg #[.int .i64 a0_0, .slice A0_1 l0_1.length c0_1]] rfl tL ?_; (with_reducible refine (impl_IsSpace.calls k a0_0 _ _ l0_1 false _ ?s1 ?s2 A6.out).mono ?_); (case s1 => exact tC ((Kd.C_below HR0_1.out HB.out))); (case s2 => exact HC0_1.out); rintro e w16 ⟨rfl, hb⟩; refine ⟨_, rfl, ?_⟩; refine qM3 (tQ BK422.out hb) (tQ BK423.out hb) (bQT tB hb) ?_; clear BK422 BK423 HB; intro BK422 BK423 HB; (try clear hb); (try clear hb2); (try clear hk); (try clear hi)))
  go_meet
  case rel => exact ⟨_, (true), tS, H', ⟨tO⟩, ⟨tG BK422.out⟩, ⟨tG BK423.out⟩, ⟨tB⟩⟩
 clear HC3
 try clear c7
 try clear hcz10_0
 try clear hcz10_1
 try clear hcz12_0
 try clear hcz12_1
 try clear hcz15_0
 try clear hcz15_1
 try clear hfz10_0
 try clear hfz10_1
 try clear hfz12_0
 try clear hfz12_1
 try clear hfz15_0
 try clear hfz15_1
 obtain ⟨kq, x5_2, rfl, HA, HJ2, BK422, BK423, HB⟩ := hcut
 cases kq with
 | zero => exact absurd HA.out (by simp [impl_spacesCode.j0])
 | succ kj2 =>
  have H := HA.out
  clear HA
  simp only [impl_spacesCode.j0] at H
  by_cases c17 : x5_2 = true
  ·subst c17
   rw [if_pos rfl] at H
   obtain rfl := Option.some.inj H
   go_wp2
   go_ret
   exact ⟨tE, tB⟩
  replace c17 := Bool.eq_false_iff.mpr c17
  subst c17
  rw [if_neg (show ¬ (false = true) by decide)] at H
  by_cases c18 : a0_0 = a1_0
  ·rw [if_pos c18] at H
   have c18b0 := beq_iff_eq.mpr c18
   have c18b1 := bne_eq_false_iff_eq.mpr c18
   clear c18
   obtain rfl := Option.some.inj H
   have hnb19 := NB422_423.out
   have hnc19 := NB423_422.out
   have hcz20_0 : wc.cell? ⟨gb422, 0, none⟩ = some (.int .i64 a0_0) := (kQC BK422.out 0).trans rfl
   have hcz20_1 : wc.cell? ⟨gb422, 1, none⟩ = some (.slice A0_1 l0_1.length c0_1) := (kQC BK422.out 1).trans rfl
   have hfz20_0 := kQF BK422.out 0
   have hfz20_1 := kQF BK422.out 1
   have hcz21_0 : wc.cell? ⟨gb423, 0, none⟩ = some (.int .i64 a1_0) := (kQC BK423.out 0).trans rfl
   have hcz21_1 : wc.cell? ⟨gb423, 1, none⟩ = some (.slice A1_1 l1_1.length c1_1) := (kQC BK423.out 1).trans rfl
   have hfz21_0 := kQF BK423.out 0
   have hfz21_1 := kQF BK423.out 1
   go_wp2
   go_ret
   exact ⟨tE, tB⟩
  rw [if_neg c18] at H
  have c18b0 := beq_eq_false_iff_ne.mpr c18
  have c18b1 := bne_iff_ne.mpr c18
  obtain rfl := Option.some.inj H
  have hnb22 := NB422_423.out
  have hnc22 := NB423_422.out
  have hcz23_0 : wc.cell? ⟨gb422, 0, none⟩ = some (.int .i64 a0_0) := (kQC BK422.out 0).trans rfl
  have hcz23_1 : wc.cell? ⟨gb422, 1, none⟩ = some (.slice A0_1 l0_1.length c0_1) := (kQC BK422.out 1).trans rfl
  have hfz23_0 := kQF BK422.out 0
  have hfz23_1 := kQF BK422.out 1
  have hcz24_0 : wc.cell? ⟨gb423, 0, none⟩ = some (.int .i64 a1_0) := (kQC BK423.out 0).trans rfl
  have hcz24_1 : wc.cell? ⟨gb423, 1, none⟩ = some (.slice A1_1 l1_1.length c1_1) := (kQC BK423.out 1).trans rfl
  have hfz24_0 := kQF BK423.out 0
  have hfz24_1 := kQF BK423.out 1
  go_wp2
  go_ret
  exact ⟨tE, tB⟩
def impl_SumOf.f (k : Nat) (a0_0 : Int) (l0_1 : List Int) (a1_0 : Int) (l1_1 : List Int) : Option (Int × List Int × Int) := (impl_spacesCode.f k a0_0 l0_1 a1_0 l1_1).bind fun t441 => (if t441 = 0 then ((impl_Matrix_sum.f k a0_0 l0_1 a1_0 l1_1).bind fun bt442 => (some (bt442.1, bt442.2, 0))) else (some (0, ([] : List Int), t441)))
theorem impl_SumOf.mono : ∀ a0 a1 a2 a3 k, LeO (impl_SumOf.f k a0 a1 a2 a3) (impl_SumOf.f (k + 1) a0 a1 a2 a3) := by
 intro a0 a1 a2 a3 k
 unfold impl_SumOf.f
 repeat' first
  | (with_reducible first | apply impl_Matrix_sum.mono | apply impl_spacesCode.mono | exact LeO.refl _ | exact LeO.none _ | refine LeO.ite ?_ ?_ | refine LeO.bind ?_ (fun _ => ?_))
  | exact LeO.none _
  | refine LeO.ite ?_ ?_
  | refine LeO.bind ?_ (fun _ => ?_)
theorem impl_SumOf.calls (k : Nat) (a0_0 : Int) (A0_1 : Option Addr) (c0_1 : Nat) (l0_1 : List Int) (a1_0 : Int) (A1_1 : Option Addr) (c1_1 : Nat) (l1_1 : List Int) (r1 : Int) (r2 : List Int) (r3 : Int) (w : World) (hr0_1 : Kd.C (Kd.int .i64) w A0_1 l0_1.length l0_1) (hc0_1 : l0_1.length ≤ c0_1) (hr1_1 : Kd.C (Kd.int .i64) w A1_1 l1_1.length l1_1) (hc1_1 : l1_1.length ≤ c1_1) (h : impl_SumOf.f k a0_0 l0_1 a1_0 l1_1 = some (r1, r2, r3)) :
 Calls Try.prog 21 #[.agg #[.int .i64 a0_0, .slice A0_1 l0_1.length c0_1], .agg #[.int .i64 a1_0, .slice A1_1 l1_1.length c1_1]] w fun e w' => ∃ v1_ : Value, e = .returned (.tuple #[.agg #[.int .i64 r1, v1_], .int .i64 r3]) ∧ Kd.R (Kd.int .i64) 2 w' w.heap.size (fun _ => True) v1_ r2 ∧ Below w.heap.size w w' := by
 have hu27 := Try.underlying27
 have HR0_1 := Aq.mk hr0_1
 have HC0_1 := Aq.mk hc0_1
 clear hr0_1 hc0_1
 have HR1_1 := Aq.mk hr1_1
 have HC1_1 := Aq.mk hc1_1
 clear hr1_1 hc1_1
 have HB := Aq.mk (Below.refl w.heap.size w)
 have H : ((impl_spacesCode.f k a0_0 l0_1 a1_0 l1_1).bind fun t441 => (if t441 = 0 then ((impl_Matrix_sum.f k a0_0 l0_1 a1_0 l1_1).bind fun bt442 => (some (bt442.1, bt442.2, 0))) else (some (0, ([] : List Int), t441)))) = some (r1, r2, r3) := h
 clear h
 obtain ⟨t441, A3, H⟩ := qBd H
 by_cases c4 : t441 = 0
 rotate_left
 ·rw [if_neg c4] at H
  have c4b0 := beq_eq_false_iff_ne.mpr c4
  have c4b1 := bne_iff_ne.mpr c4
  simp only [Option.some.injEq, Prod.mk.injEq] at H
  obtain ⟨rfl, rfl, rfl⟩ := H
  go_enter Try.func21, Try.ntmps21
  go_wp2_with (first | ((with_reducible refine gQd (N := 2) rfl ?_); refine xQe ?hg (N := 2) ?hd (cs := #[.int .i64 a0_0, .slice A0_1 l0_1.length c0_1]) (t := 27) ?hr ?_; (case hd => rfl); (case hg => rfl); (case hr => exact tH); intro gb438 hg w20 hbox hb; refine qM4 (bQT tB hb) hbox (tZ w hg) (tZ w hg) ?_; clear HB; intro HB BK438 GW438 GE438; clear hb hbox hg) | ((with_reducible refine gQd (N := 3) rfl ?_); refine xQe ?hg (N := 3) ?hd (cs := #[.int .i64 a1_0, .slice A1_1 l1_1.length c1_1]) (t := 27) ?hr ?_; (case hd => rfl); (case hg => rfl); (case hr => exact tH); intro gb439 hg w21 hbox hb; refine qM7 (tQ BK438.out hb) (bQT tB hb) hbox (tZ w hg) (tZ w hg) ((by rw [hg]; exact Nat.ne_of_lt (blk_lt (g := gb438) (o := .cells #[.int .i64 a0_0, .slice A0_1 l0_1.length c0_1] 27 (0, 0)) (tG BK438.out)) : gb438 ≠ gb439)) ((by rw [hg]; exact Nat.ne_of_gt (blk_lt (g := gb438) (o := .cells #[.int .i64 a0_0, .slice A0_1 l0_1.length c0_1] 27 (0, 0)) (tG BK438.out)) : gb439 ≠ gb438)) ?_; clear BK438 HB; intro BK438 HB BK439 GW439 GE439 NB438_439 NB439_438; clear hb hbox hg) | ((with_reducible refine gQd (N := 4) rfl ?_); refine xQe ?hg (N := 4) ?hd (cs := #[.int .i64 0, .slice none 0 0]) (t := 27) ?hr ?_; (case hd => rfl); (case hg => rfl); (case hr => exact tH); intro gb440 hg w22 hbox hb; refine qM10 (tQ BK438.out hb) (tQ BK439.out hb) (bQT tB hb) hbox (tZ w hg) (tZ w hg) ((by rw [hg]; exact Nat.ne_of_lt (blk_lt (g := gb438) (o := .cells #[.int .i64 a0_0, .slice A0_1 l0_1.length c0_1] 27 (0, 0)) (tG BK438.out)) : gb438 ≠ gb440)) ((by rw [hg]; exact Nat.ne_of_gt (blk_lt (g := gb438) (o := .cells #[.int .i64 a0_0, .slice A0_1 l0_1.length c0_1] 27 (0, 0)) (tG BK438.out)) : gb440 ≠ gb438)) ((by rw [hg]; exact Nat.ne_of_lt (blk_lt (g := gb439) (o := .cells #[.int .i64 a1_0, .slice A1_1 l1_1.length c1_1] 27 (0, 0)) (tG BK439.out)) : gb439 ≠ gb440)) ((by rw [hg]; exact Nat.ne_of_gt (blk_lt (g := gb439) (o := .cells #[.int .i64 a1_0, .slice A1_1 l1_1.length c1_1] 27 (0, 0)) (tG BK439.out)) : gb440 ≠ gb439)) ?_; clear BK438 BK439 HB; intro BK438 BK439 HB BK440 GW440 GE440 NB438_440 NB440_438 NB439_440 NB440_439; clear hb hbox hg; have hnb23 := NB438_439.out; have hnc23 := NB439_438.out; have hnb24 := NB438_440.out; have hnc24 := NB440_438.out; have hcz25_0 : w22.cell? ⟨gb438, 0, none⟩ = some (.int .i64 a0_0) := (kQC BK438.out 0).trans rfl; have hcz25_1 : w22.cell? ⟨gb438, 1, none⟩ = some (.slice A0_1 l0_1.length c0_1) := (kQC BK438.out 1).trans rfl; have hfz25_0 := kQF BK438.out 0; have hfz25_1 := kQF BK438.out 1; have hnb26 := NB439_440.out; have hnc26 := NB440_439.out; have hcz27_0 : w22.cell? ⟨gb439, 0, none⟩ = some (.int .i64 a1_0) := (kQC BK439.out 0).trans rfl; have hcz27_1 : w22.cell? ⟨gb439, 1, none⟩ = some (.slice A1_1 l1_1.length c1_1) := (kQC BK439.out 1).trans rfl; have hfz27_0 := kQF BK439.out 0; have hfz27_1 := kQF BK439.out 1) | ((with_reducible refine gQc (f := 57) rfl ?_); refine goesL_ (some 9) rfl rfl Try.func57 (by kernel_rfl) rfl #[.agg #[.int .i64 a0_0, .slice A0_1 l0_1.length c0_1], .agg #[.int .i64 a1_0, .slice A1_1 l1_1.length c1_1]] rfl tL ?_; (with_reducible refine (impl_spacesCode.calls k a0_0 _ _ l0_1 a1_0 _ _ l1_1 t441 _ ?s1 ?s2 ?s3 ?s4 A3.out).mono ?_); (case s1 => exact tC ((Kd.C_below HR0_1.out HB.out))); (case s2 => exact HC0_1.out); (case s3 => exact tC ((Kd.C_below HR1_1.out HB.out))); (case s4 => exact HC1_1.out); rintro e w28 ⟨rfl, hb⟩; refine ⟨_, rfl, ?_⟩; refine qM4 (tQ BK438.out hb) (tQ BK439.out hb) (tQ BK440.out hb) (bQT tB hb) ?_; clear BK438 BK439 BK440 HB; intro BK438 BK439 BK440 HB; (try clear hb); (try clear hb2); (try clear hk); (try clear hi); have hcz29_0 : w28.cell? ⟨gb440, 0, none⟩ = some (.int .i64 0) := (kQC BK440.out 0).trans rfl; have hcz29_1 : w28.cell? ⟨gb440, 1, none⟩ = some (.slice none 0 0) := (kQC BK440.out 1).trans rfl; have hfz29_0 := kQF BK440.out 0; have hfz29_1 := kQF BK440.out 1))
  refine bodyPost_ret (results_ct rfl _ _ gb440 27 #[.int .i64 0, .slice none 0 0] (0, 0) _ rfl (by (with_reducible repeat (first | refine kQN ?_ _ | refine kQD ?_ | refine kQA ?_ _)); refine kQP (cs := #[.int .i64 0, .slice none 0 0]) ?_ 1 _ rfl; (with_reducible repeat (first | refine kQN ?_ _ | refine kQD ?_ | refine kQA ?_ _)); refine kQP (cs := #[.int .i64 0, .slice none 0 0]) ?_ 0 _ rfl; (with_reducible repeat (first | refine kQN ?_ _ | refine kQD ?_ | refine kQA ?_ _)); exact BK440.out) Try.underlying27 rfl (by kernel_rfl)) rfl ?_
  exact ⟨_, tE, by first | exact Kd.R_nil _ _ _ _ _ | exact Kd.N_nil _ _ _ _ _ | exact Kd.V_nil _ _ _ _ _ | exact Kd.Q_nil _ _ _ _ _ | exact Kd.S_nil _ _ _ _ _, tB⟩
 rw [if_pos c4] at H
 have c4b0 := beq_iff_eq.mpr c4
 have c4b1 := bne_eq_false_iff_eq.mpr c4
 clear c4
 obtain ⟨⟨t442, t443⟩, A5, H⟩ := qBd H
 (try dsimp only at H)
 simp only [Option.some.injEq, Prod.mk.injEq] at H
 obtain ⟨rfl, rfl, rfl⟩ := H
 go_enter Try.func21, Try.ntmps21
 go_wp2_with (first | ((with_reducible refine gQd (N := 2) rfl ?_); refine xQe ?hg (N := 2) ?hd (cs := #[.int .i64 a0_0, .slice A0_1 l0_1.length c0_1]) (t := 27) ?hr ?_; (case hd => rfl); (case hg => rfl); (case hr => exact tH); intro gb438 hg w6 hbox hb; refine qM4 (bQT tB hb) hbox (tZ w hg) (tZ w hg) ?_; clear HB; intro HB BK438 GW438 GE438; clear hb hbox hg) | ((with_reducible refine gQd (N := 3) rfl ?_); refine xQe ?hg (N := 3) ?hd (cs := #[.int .i64 a1_0, .slice A1_1 l1_1.length c1_1]) (t := 27) ?hr ?_; (case hd => rfl); (case hg => rfl); (case hr => exact tH); intro gb439 hg w7 hbox hb; refine qM7 (tQ BK438.out hb) (bQT tB hb) hbox (tZ w hg) (tZ w hg) ((by rw [hg]; exact Nat.ne_of_lt (blk_lt (g := gb438) (o := .cells #[.int .i64 a0_0, .slice A0_1 l0_1.length c0_1] 27 (0, 0)) (tG BK438.out)) : gb438 ≠ gb439)) ((by rw [hg]; exact Nat.ne_of_gt (blk_lt (g := gb438) (o := .cells #[.int .i64 a0_0, .slice A0_1 l0_1.length c0_1] 27 (0, 0)) (tG BK438.out)) : gb439 ≠ gb438)) ?_; clear BK438 HB; intro BK438 HB BK439 GW439 GE439 NB438_439 NB439_438; clear hb hbox hg) | ((with_reducible refine gQd (N := 4) rfl ?_); refine xQe ?hg (N := 4) ?hd (cs := #[.int .i64 0, .slice none 0 0]) (t := 27) ?hr ?_; (case hd => rfl); (case hg => rfl); (case hr => exact tH); intro gb440 hg w8 hbox hb; refine qM10 (tQ BK438.out hb) (tQ BK439.out hb) (bQT tB hb) hbox (tZ w hg) (tZ w hg) ((by rw [hg]; exact Nat.ne_of_lt (blk_lt (g := gb438) (o := .cells #[.int .i64 a0_0, .slice A0_1 l0_1.length c0_1] 27 (0, 0)) (tG BK438.out)) : gb438 ≠ gb440)) ((by rw [hg]; exact Nat.ne_of_gt (blk_lt (g := gb438) (o := .cells #[.int .i64 a0_0, .slice A0_1 l0_1.length c0_1] 27 (0, 0)) (tG BK438.out)) : gb440 ≠ gb438)) ((by rw [hg]; exact Nat.ne_of_lt (blk_lt (g := gb439) (o := .cells #[.int .i64 a1_0, .slice A1_1 l1_1.length c1_1] 27 (0, 0)) (tG BK439.out)) : gb439 ≠ gb440)) ((by rw [hg]; exact Nat.ne_of_gt (blk_lt (g := gb439) (o := .cells #[.int .i64 a1_0, .slice A1_1 l1_1.length c1_1] 27 (0, 0)) (tG BK439.out)) : gb440 ≠ gb439)) ?_; clear BK438 BK439 HB; intro BK438 BK439 HB BK440 GW440 GE440 NB438_440 NB440_438 NB439_440 NB440_439; clear hb hbox hg; have hnb9 := NB438_439.out; have hnc9 := NB439_438.out; have hnb10 := NB438_440.out; have hnc10 := NB440_438.out; have hcz11_0 : w8.cell? ⟨gb438, 0, none⟩ = some (.int .i64 a0_0) := (kQC BK438.out 0).trans rfl; have hcz11_1 : w8.cell? ⟨gb438, 1, none⟩ = some (.slice A0_1 l0_1.length c0_1) := (kQC BK438.out 1).trans rfl; have hfz11_0 := kQF BK438.out 0; have hfz11_1 := kQF BK438.out 1; have hnb12 := NB439_440.out; have hnc12 := NB440_439.out; have hcz13_0 : w8.cell? ⟨gb439, 0, none⟩ = some (.int .i64 a1_0) := (kQC BK439.out 0).trans rfl; have hcz13_1 : w8.cell? ⟨gb439, 1, none⟩ = some (.slice A1_1 l1_1.length c1_1) := (kQC BK439.out 1).trans rfl; have hfz13_0 := kQF BK439.out 0; have hfz13_1 := kQF BK439.out 1) | ((with_reducible refine gQc (f := 57) rfl ?_); refine goesL_ (some 9) rfl rfl Try.func57 (by kernel_rfl) rfl #[.agg #[.int .i64 a0_0, .slice A0_1 l0_1.length c0_1], .agg #[.int .i64 a1_0, .slice A1_1 l1_1.length c1_1]] rfl tL ?_; (with_reducible refine (impl_spacesCode.calls k a0_0 _ _ l0_1 a1_0 _ _ l1_1 t441 _ ?s1 ?s2 ?s3 ?s4 A3.out).mono ?_); (case s1 => exact tC ((Kd.C_below HR0_1.out HB.out))); (case s2 => exact HC0_1.out); (case s3 => exact tC ((Kd.C_below HR1_1.out HB.out))); (case s4 => exact HC1_1.out); rintro e w14 ⟨rfl, hb⟩; refine ⟨_, rfl, ?_⟩; refine qM4 (tQ BK438.out hb) (tQ BK439.out hb) (tQ BK440.out hb) (bQT tB hb) ?_; clear BK438 BK439 BK440 HB; intro BK438 BK439 BK440 HB; (try clear hb); (try clear hb2); (try clear hk); (try clear hi); have hcz15_0 : w14.cell? ⟨gb438, 0, none⟩ = some (.int .i64 a0_0) := (kQC BK438.out 0).trans rfl; have hcz15_1 : w14.cell? ⟨gb438, 1, none⟩ = some (.slice A0_1 l0_1.length c0_1) := (kQC BK438.out 1).trans rfl; have hfz15_0 := kQF BK438.out 0; have hfz15_1 := kQF BK438.out 1; have hcz16_0 : w14.cell? ⟨gb439, 0, none⟩ = some (.int .i64 a1_0) := (kQC BK439.out 0).trans rfl; have hcz16_1 : w14.cell? ⟨gb439, 1, none⟩ = some (.slice A1_1 l1_1.length c1_1) := (kQC BK439.out 1).trans rfl; have hfz16_0 := kQF BK439.out 0; have hfz16_1 := kQF BK439.out 1) | ((with_reducible refine gQc (f := 58) rfl ?_); refine goesL_ (some 16) rfl rfl Try.func58 (by kernel_rfl) rfl #[.agg #[.int .i64 a0_0, .slice A0_1 l0_1.length c0_1], .agg #[.int .i64 a1_0, .slice A1_1 l1_1.length c1_1]] rfl tL ?_; (with_reducible refine (impl_Matrix_sum.calls k a0_0 (fun k_ => k_ < w.heap.size) _ _ l0_1 a1_0 (fun k_ => k_ < w.heap.size) _ _ l1_1 t442 t443 _ ?s1 ?s2 A5.out).mono ?_); (case s1 => exact Kd.V_mk HC0_1.out (Kd.F_below (Kd.C_F (Kd.heap_int .i64) HR0_1.out) tB)); (case s2 => exact Kd.V_mk HC1_1.out (Kd.F_below (Kd.C_F (Kd.heap_int .i64) HR1_1.out) tB)); rintro e w17 ⟨v444, rfl, ho0, hb⟩; refine ⟨_, rfl, ?_⟩; refine qM5 (Kd.R_lower (Kd.R_mono (ok' := fun k_ => True) ho0 (fun _ hk_ => trivial)) (bQZ tB)) (tQ BK438.out hb) (tQ BK439.out hb) (tQ BK440.out hb) (bQT tB hb) ?_; clear BK438 BK439 BK440 HB; intro HO445 BK438 BK439 BK440 HB; (try clear hb); (try clear hb2); (try clear hk); (try clear hi); (try clear ho0); have hcz18_0 : w17.cell? ⟨gb440, 0, none⟩ = some (.int .i64 0) := (kQC BK440.out 0).trans rfl; have hcz18_1 : w17.cell? ⟨gb440, 1, none⟩ = some (.slice none 0 0) := (kQC BK440.out 1).trans rfl; have hfz18_0 := kQF BK440.out 0; have hfz18_1 := kQF BK440.out 1; obtain ⟨Ao19, co19, eo19⟩ := Kd.R_slice HO445.out; subst eo19))
 refine bodyPost_ret (results_ct rfl _ _ gb440 27 #[.int .i64 t442, .slice Ao19 t443.length co19] (0, 0) _ rfl (by (with_reducible repeat (first | refine kQN ?_ _ | refine kQD ?_ | refine kQA ?_ _)); refine kQP (cs := #[.int .i64 t442, .slice none 0 0]) ?_ 1 _ rfl; (with_reducible repeat (first | refine kQN ?_ _ | refine kQD ?_ | refine kQA ?_ _)); refine kQP (cs := #[.int .i64 0, .slice none 0 0]) ?_ 0 _ rfl; (with_reducible repeat (first | refine kQN ?_ _ | refine kQD ?_ | refine kQA ?_ _)); exact BK440.out) Try.underlying27 rfl (by kernel_rfl)) rfl ?_
 exact ⟨_, tE, by (with_reducible repeat (first | apply Kd.RqA | apply Kd.RqN | apply Kd.RqD)); exact Kd.R_mono (Kd.R_far (p := ⟨gb440, 1, none⟩) (Kd.R_far (p := ⟨gb440, 0, none⟩) (Kd.R_types HO445.out BK440.out (by decide)) (fun _ hk => hk.2) (.int .i64 t442)) (fun _ hk => hk.2) (.slice Ao19 t443.length co19)) (fun _ hk => trivial), tB⟩
def impl_lead.l0 : Nat → Int → Int → Option (Int)
  | 0, _, _ => none
  | k + 1, x0, x3 => if 0 ≤ x3 then (if (Go.bits .and .i64 (shr .i64 x0 x3) 1) = 0 then (impl_lead.l0 k x0 (wrap64 (x3 + 1))) else (some x3)) else (none)
def impl_lead.f (k : Nat) (a0 : Int) : Option (Int) := impl_lead.l0 k a0 0
theorem impl_lead.mono_l : ∀ k, (∀ y0 y1, LeO (impl_lead.l0 k y0 y1) (impl_lead.l0 (k + 1) y0 y1))
 | 0 => fun _ _ r h => by simp [impl_lead.l0] at h
 | k + 1 => by
  have ih0 := impl_lead.mono_l k
  ·intro y0 y1
   unfold impl_lead.l0
   repeat' first
   | (with_reducible first | apply ih0 | exact LeO.refl _ | exact LeO.none _ | refine LeO.ite ?_ ?_ | refine LeO.bind ?_ (fun _ => ?_))
   | exact LeO.none _
   | refine LeO.ite ?_ ?_
   | refine LeO.bind ?_ (fun _ => ?_)
theorem impl_lead.mono : ∀ a0 k, LeO (impl_lead.f k a0) (impl_lead.f (k + 1) a0) := by
 intro a0 k
 have ih0 := impl_lead.mono_l k
 unfold impl_lead.f
 repeat' first
  | (with_reducible first | apply ih0 | exact LeO.refl _ | exact LeO.none _ | refine LeO.ite ?_ ?_ | refine LeO.bind ?_ (fun _ => ?_))
  | exact LeO.none _
  | refine LeO.ite ?_ ?_
  | refine LeO.bind ?_ (fun _ => ?_)
theorem impl_lead.calls (k : Nat) (a0 : Int) (r : Int) (w : World) (h : impl_lead.f k a0 = some r) :
 Calls Try.prog 93 #[.int .i64 a0] w fun e w' => e = .returned (.int .i64 r) ∧ Dq w w' := by
 have H : (impl_lead.l0 k a0 0) = some r := h
 clear h
 replace H' := Aq.mk H
 clear H
 go_enter Try.func93, Try.ntmps93
 go_wp2
 go_loopg [3] k (fun kq v3 w' => ∃ (x3_1 : Int), v3 = .int .i64 x3_1 ∧ Aq (impl_lead.l0 kq a0 x3_1 = some r) ∧ Aq (kq ≤ k) ∧ Dq w w')
 case atStart => exact ⟨(0), tS, H', ⟨Nat.le_refl _⟩, tD⟩
 clear H'
 obtain ⟨x3_1, rfl, HA, HK1, ⟨m1, rfl⟩⟩ := hrel
 cases gk with
 | zero => exact absurd HA.out (by simp [impl_lead.l0])
 | succ k1 =>
  have H := HA.out
  clear HA
  simp only [impl_lead.l0] at H
  by_cases c2 : 0 ≤ x3_1
  rotate_left
  ·rw [if_neg c2] at H
   exact absurd H (by simp)
  rw [if_pos c2] at H
  have c2b0 := eq_true c2
  have c2b1 := decide_eq_true c2
  clear c2
  obtain ⟨ji3, hji3⟩ : ∃ j_ : Int, (shr .i64 a0 x3_1) = j_ := ⟨_, rfl⟩
  first | rw [hji3] at H | simp only [hji3] at H | skip
  have hji3_ : (a0 / 2 ^ min x3_1.toNat 64) = ji3 := hji3
  have hji3z : x3_1 ≤ 64 → (a0 / 2 ^ x3_1.toNat) = ji3 := shr_small hji3
  by_cases c4 : (Go.bits .and .i64 (ji3) 1) = 0
  rotate_left
  ·rw [if_neg c4] at H
   have c4b0 := beq_eq_false_iff_ne.mpr c4
   have c4b1 := bne_iff_ne.mpr c4
   obtain rfl := Option.some.inj H
   go_wp2
   go_ret
   exact ⟨by first | rfl | (simp; done) | (simp only [← hji3] <;> (first | rfl | simp)) | (simp [*]; done), tD⟩
  rw [if_pos c4] at H
  have c4b0 := beq_iff_eq.mpr c4
  have c4b1 := bne_eq_false_iff_eq.mpr c4
  clear c4
  replace H' := Aq.mk H
  clear H
  go_wp2
  go_roundg k1
  case measure => have := HK1.out; omega
  case rel => exact ⟨(wrap64 (x3_1 + 1)), tS, H', ⟨by have := HK1.out; omega⟩, tD⟩
end Go.Proofs.Ythjfilmdobkmlaa.P
