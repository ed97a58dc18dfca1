/- Functions of the program and what they tell, as the printing program wrote it. -/
import Derived.Test.YthjfilmdobkmlaaPx0
import Derived.Test.YthjfilmdobkmlaaPx1
import Derived.Test.YthjfilmdobkmlaaPx2
import Derived.Test.YthjfilmdobkmlaaPx3
import Derived.Test.YthjfilmdobkmlaaPx4
import Derived.Test.YthjfilmdobkmlaaPx7
import Derived.Test.YthjfilmdobkmlaaPx8
import Derived.Test.YthjfilmdobkmlaaPx9
namespace Go.Proofs.Ythjfilmdobkmlaa.P
open Go.Shelf Go.RowKit Go.Proofs.YthjfilmdobkmlaaW.PrintWords Go.Proofs.YthjfilmdobkmlaaW.PrintLast Go.Proofs.YthjfilmdobkmlaaW.PrintMore
attribute [local go_sem] max2_int min2_int max_two min_two max_three min_three max_four min_four
set_option linter.unusedVariables false
set_option linter.unusedSimpArgs false
set_option maxHeartbeats 8000000
set_option maxRecDepth 100000
def spec_A2Matrix.f (k : Nat) (l0 : List Int) (a1 : Int) (a2 : Int) : Option (Int × List Int) := (spec_l00From.f l0).bind fun bt145 => ((spec_l02Drawn.f k bt145.1 bt145.2.1 bt145.2.2 a1 a2).bind fun bt149 => (some (bt149.1, bt149.2.1)))
theorem spec_A2Matrix.mono : ∀ a0 a1 a2 k, LeO (spec_A2Matrix.f k a0 a1 a2) (spec_A2Matrix.f (k + 1) a0 a1 a2) := by
 intro a0 a1 a2 k
 unfold spec_A2Matrix.f
 repeat' first
  | (with_reducible first | apply spec_l02Drawn.mono | exact LeO.refl _ | exact LeO.none _ | refine LeO.ite ?_ ?_ | refine LeO.bind ?_ (fun _ => ?_))
  | exact LeO.none _
  | refine LeO.ite ?_ ?_
  | refine LeO.bind ?_ (fun _ => ?_)
theorem spec_A2Matrix.calls (k : Nat) (A0 : Option Addr) (c0 : Nat) (l0 : List Int) (a1 : Int) (a2 : Int) (r1 : Int) (r2 : List Int) (w : World) (hr0 : Kd.C (Kd.int .u8) w A0 l0.length l0) (hc0 : l0.length ≤ c0) (h : spec_A2Matrix.f k l0 a1 a2 = some (r1, r2)) :
 Calls Try.prog 9 #[.slice A0 l0.length c0, .int .i64 a1, .int .i64 a2] w fun e w' => ∃ v1_ : Value, e = .returned (.agg #[.int .i64 r1, v1_]) ∧ Kd.R (Kd.int .i64) 2 w' w.heap.size (fun _ => True) v1_ r2 ∧ Below w.heap.size w w' := by
 have hu27 := Try.underlying27
 have HR0 := Aq.mk hr0
 have HC0 := Aq.mk hc0
 clear hr0 hc0
 have HB := Aq.mk (Below.refl w.heap.size w)
 have H : ((spec_l00From.f l0).bind fun bt145 => ((spec_l02Drawn.f k bt145.1 bt145.2.1 bt145.2.2 a1 a2).bind fun bt149 => (some (bt149.1, bt149.2.1)))) = some (r1, r2) := h
 clear h
 obtain ⟨⟨t145, t146, t147⟩, A4, H⟩ := qBd H
 (try dsimp only at H)
 obtain ⟨⟨t149, t150, t153, t154⟩, A5, H⟩ := qBd H
 (try dsimp only at H)
 simp only [Option.some.injEq, Prod.mk.injEq] at H
 obtain ⟨rfl, rfl⟩ := H
 go_enter Try.func9, Try.ntmps9
 go_wp2_with (first | ((with_reducible refine gQd (N := 6) rfl ?_); refine xQe ?hg (N := 6) ?hd (cs := #[.int .i64 0, .slice none 0 0]) (t := 27) ?hr ?_; (case hd => rfl); (case hg => rfl); (case hr => exact tH); intro gb144 hg w6 hbox hb; refine qM4 (bQT tB hb) hbox (tZ w hg) (tZ w hg) ?_; clear HB; intro HB BK144 GW144 GE144; clear hb hbox hg) | ((with_reducible refine gQc (f := 39) rfl ?_); refine goesL_ (some 8) rfl rfl Try.func39 (by kernel_rfl) rfl #[.slice A0 l0.length c0] rfl tL ?_; (with_reducible refine (spec_l00From.calls _ _ l0 t145 t146 t147 w _ ?s1 ?s2 ?s3 A4.out).mono ?_); (case s1 => exact tB); (case s2 => exact HR0.out); (case s3 => exact HC0.out); rintro e w7 ⟨g148, rfl, hi, hb, hb2⟩; refine ⟨_, rfl, ?_⟩; refine qM5 (kQB (g := gb144) (o := .cells #[.int .i64 0, .slice none 0 0] 27 (0, 0)) (tG BK144.out) hb2) hb hi (IsS93.ne_blk hi (kQB (g := gb144) (o := .cells #[.int .i64 0, .slice none 0 0] 27 (0, 0)) (tG BK144.out) hb2) (by decide)) (Ne.symm (IsS93.ne_blk hi (kQB (g := gb144) (o := .cells #[.int .i64 0, .slice none 0 0] 27 (0, 0)) (tG BK144.out) hb2) (by decide))) ?_; clear BK144 HB; intro BK144 HB HI148 NB148_144 NB144_148; (try clear hb); (try clear hb2); (try clear hk); (try clear hi)) | ((with_reducible refine gQc (f := 38) rfl ?_); refine goesL_ (some 11) rfl rfl Try.func38 (by kernel_rfl) rfl #[.pointer (some ⟨g148, 0, none⟩), .int .i64 a1, .int .i64 a2] rfl tL ?_; (with_reducible refine (spec_l02Drawn.calls k g148 t145 t146 t147 a1 a2 t149 t150 t153 t154 w _ ?s1 ?s2 A5.out).mono ?_); (case s1 => repeat (first | (with_reducible first | exact HI148.out | apply IsS93.alloc | apply IsS93.drewN | apply IsS93.drew | apply IsS93.set_1 | apply IsS93.set_2 | refine IsS93.far ?_ NB148_144.out _) | exact HI148.out)); (case s2 => repeat (first | (with_reducible first | exact HB.out | apply bQA | apply bQN | apply bQ1 | refine bQS ?_ (IsS93.ge HI148.out) | refine bQS ?_ GE144.out) | exact HB.out)); rintro e w8 ⟨v151, rfl, ho0, hi, hb, hk⟩; refine ⟨_, rfl, ?_⟩; refine qM4 (KeepBut.blk hk (g' := gb144) (o := .cells #[.int .i64 0, .slice none 0 0] 27 (0, 0)) (tG BK144.out) NB144_148.out (by simp)) (Kd.R_lower ho0 (bQZ (by repeat (first | (with_reducible first | exact HB.out | apply bQA | apply bQN | apply bQ1 | refine bQS ?_ (IsS93.ge HI148.out) | refine bQS ?_ GE144.out) | exact HB.out)))) hb hi ?_; clear BK144 HB HI148; intro BK144 HO152 HB HI148; (try clear hb); (try clear hb2); (try clear hk); (try clear hi); (try clear ho0); have hnb9 := NB144_148.out; have hnc9 := NB148_144.out; have hcz10_0 : w8.cell? ⟨gb144, 0, none⟩ = some (.int .i64 0) := (kQC BK144.out 0).trans rfl; have hcz10_1 : w8.cell? ⟨gb144, 1, none⟩ = some (.slice none 0 0) := (kQC BK144.out 1).trans rfl; have hfz10_0 := kQF BK144.out 0; have hfz10_1 := kQF BK144.out 1; obtain ⟨Ao11, co11, eo11⟩ := Kd.R_slice HO152.out; subst eo11))
 refine bodyPost_ret (results_cell_row rfl _ _ gb144 27 #[.int .i64 t149, .slice Ao11 t150.length co11] (0, 0) _ rfl (by (with_reducible repeat (first | refine kQN ?_ _ | refine kQD ?_ | refine kQA ?_ _)); refine kQP (cs := #[.int .i64 t149, .slice none 0 0]) ?_ 1 _ rfl; (with_reducible repeat (first | refine kQN ?_ _ | refine kQD ?_ | refine kQA ?_ _)); refine kQP (cs := #[.int .i64 0, .slice none 0 0]) ?_ 0 _ rfl; (with_reducible repeat (first | refine kQN ?_ _ | refine kQD ?_ | refine kQA ?_ _)); exact BK144.out) Try.underlying27 rfl (by kernel_rfl)) rfl ?_
 exact ⟨_, tE, by (with_reducible repeat (first | apply Kd.RqA | apply Kd.RqN | apply Kd.RqD)); exact Kd.R_mono (Kd.R_far (p := ⟨gb144, 1, none⟩) (Kd.R_far (p := ⟨gb144, 0, none⟩) (Kd.R_types HO152.out BK144.out (by decide)) (fun _ hk => hk.2) (.int .i64 t149)) (fun _ hk => hk.2) (.slice Ao11 t150.length co11)) (fun _ hk => trivial), by repeat (first | (with_reducible first | exact HB.out | apply bQA | apply bQN | apply bQ1 | refine bQS ?_ (IsS93.ge HI148.out) | refine bQS ?_ GE144.out) | exact HB.out)⟩
def impl_RankOf.f (k : Nat) (a0_0 : Int) (l0_1 : List Int) : Option (Int × Int) := (impl_ValidMatrix.f k a0_0 l0_1).bind fun t189 => (if t189 = true then ((impl_echelon.f k l0_1).bind fun t190 => ((impl_size_int64.f t190).bind fun t193 => (some (t193, 0)))) else (some (0, 1)))
theorem impl_RankOf.mono : ∀ a0 a1 k, LeO (impl_RankOf.f k a0 a1) (impl_RankOf.f (k + 1) a0 a1) := by
 intro a0 a1 k
 unfold impl_RankOf.f
 repeat' first
  | (with_reducible first | apply impl_ValidMatrix.mono | apply impl_echelon.mono | exact LeO.refl _ | exact LeO.none _ | refine LeO.ite ?_ ?_ | refine LeO.bind ?_ (fun _ => ?_))
  | exact LeO.none _
  | refine LeO.ite ?_ ?_
  | refine LeO.bind ?_ (fun _ => ?_)
theorem impl_RankOf.calls (k : Nat) (a0_0 : Int) (A0_1 : Option Addr) (c0_1 : Nat) (l0_1 : List Int) (r1 : Int) (r2 : Int) (w : World) (hr0_1 : Kd.C (Kd.int .i64) w A0_1 l0_1.length l0_1) (hc0_1 : l0_1.length ≤ c0_1) (h : impl_RankOf.f k a0_0 l0_1 = some (r1, r2)) :
 Calls Try.prog 10 #[.agg #[.int .i64 a0_0, .slice A0_1 l0_1.length c0_1]] w fun e w' => e = .returned (.tuple #[.int .i64 r1, .int .i64 r2]) ∧ Below w.heap.size w w' := by
 have hu27 := Try.underlying27
 have HR0_1 := Aq.mk hr0_1
 have HC0_1 := Aq.mk hc0_1
 clear hr0_1 hc0_1
 have HB := Aq.mk (Below.refl w.heap.size w)
 have H : ((impl_ValidMatrix.f k a0_0 l0_1).bind fun t189 => (if t189 = true then ((impl_echelon.f k l0_1).bind fun t190 => ((impl_size_int64.f t190).bind fun t193 => (some (t193, 0)))) else (some (0, 1)))) = some (r1, r2) := h
 clear h
 obtain ⟨t189, A2, H⟩ := qBd H
 by_cases c3 : t189 = true
 ·subst c3
  rw [if_pos rfl] at H
  obtain ⟨t190, A4, H⟩ := qBd H
  obtain ⟨t193, A5, H⟩ := qBd H
  simp only [Option.some.injEq, Prod.mk.injEq] at H
  obtain ⟨rfl, rfl⟩ := H
  go_enter Try.func10, Try.ntmps10
  go_wp2_with (first | ((with_reducible refine gQd (N := 1) rfl ?_); refine xQe ?hg (N := 1) ?hd (cs := #[.int .i64 a0_0, .slice A0_1 l0_1.length c0_1]) (t := 27) ?hr ?_; (case hd => rfl); (case hg => rfl); (case hr => exact tH); intro gb188 hg w6 hbox hb; refine qM4 (bQT tB hb) hbox (tZ w hg) (tZ w hg) ?_; clear HB; intro HB BK188 GW188 GE188; clear hb hbox hg; have hcz7_0 : w6.cell? ⟨gb188, 0, none⟩ = some (.int .i64 a0_0) := (kQC BK188.out 0).trans rfl; have hcz7_1 : w6.cell? ⟨gb188, 1, none⟩ = some (.slice A0_1 l0_1.length c0_1) := (kQC BK188.out 1).trans rfl; have hfz7_0 := kQF BK188.out 0; have hfz7_1 := kQF BK188.out 1) | ((with_reducible refine gQc (f := 40) rfl ?_); refine goesL_ (some 5) rfl rfl Try.func40 (by kernel_rfl) rfl #[.agg #[.int .i64 a0_0, .slice A0_1 l0_1.length c0_1]] rfl tL ?_; (with_reducible refine (impl_ValidMatrix.calls k a0_0 _ _ l0_1 true _ ?s1 ?s2 A2.out).mono ?_); (case s1 => exact tC ((Kd.C_below HR0_1.out HB.out))); (case s2 => exact HC0_1.out); rintro e w8 ⟨rfl, hb⟩; refine ⟨_, rfl, ?_⟩; refine qM2 (tQ BK188.out hb) (bQT tB hb) ?_; clear BK188 HB; intro BK188 HB; (try clear hb); (try clear hb2); (try clear hk); (try clear hi); have hcz9_0 : w8.cell? ⟨gb188, 0, none⟩ = some (.int .i64 a0_0) := (kQC BK188.out 0).trans rfl; have hcz9_1 : w8.cell? ⟨gb188, 1, none⟩ = some (.slice A0_1 l0_1.length c0_1) := (kQC BK188.out 1).trans rfl; have hfz9_0 := kQF BK188.out 0; have hfz9_1 := kQF BK188.out 1) | ((with_reducible refine gQc (f := 42) rfl ?_); refine goesL_ (some 9) rfl rfl Try.func42 (by kernel_rfl) rfl #[.slice A0_1 l0_1.length c0_1] rfl tL ?_; (with_reducible refine (impl_echelon.calls k _ _ l0_1 t190 _ ?s1 ?s2 A4.out).mono ?_); (case s1 => exact tC ((Kd.C_below HR0_1.out HB.out))); (case s2 => exact HC0_1.out); rintro e w10 ⟨v191, rfl, ho0, hb⟩; refine ⟨_, rfl, ?_⟩; refine qM3 (Kd.R_lower ho0 (bQZ tB)) (tQ BK188.out hb) (bQT tB hb) ?_; clear BK188 HB; intro HO192 BK188 HB; (try clear hb); (try clear hb2); (try clear hk); (try clear hi); (try clear ho0); obtain ⟨Ao11, co11, eo11⟩ := Kd.R_slice HO192.out; subst eo11) | ((with_reducible refine gQc (f := 41) rfl ?_); refine goesL_ (some 10) rfl rfl Try.func41 (by kernel_rfl) rfl #[.slice Ao11 t190.length co11] rfl tL ?_; (with_reducible refine (impl_size_int64.calls _ _ t190 t193 _ ?s1 ?s2 A5.out).mono ?_); (case s1 => exact tC ((Kd.R_reads' HO192.out).2.2)); (case s2 => exact (Kd.R_reads' HO192.out).2.1); rintro e w' ⟨rfl, ⟨nd, rfl⟩⟩; refine ⟨_, rfl, ?_⟩))
  go_ret2
  exact ⟨tE, tB⟩
 replace c3 := Bool.eq_false_iff.mpr c3
 subst c3
 rw [if_neg (show ¬ (false = true) by decide)] at H
 simp only [Option.some.injEq, Prod.mk.injEq] at H
 obtain ⟨rfl, rfl⟩ := H
 go_enter Try.func10, Try.ntmps10
 go_wp2_with (first | ((with_reducible refine gQd (N := 1) rfl ?_); refine xQe ?hg (N := 1) ?hd (cs := #[.int .i64 a0_0, .slice A0_1 l0_1.length c0_1]) (t := 27) ?hr ?_; (case hd => rfl); (case hg => rfl); (case hr => exact tH); intro gb188 hg w12 hbox hb; refine qM4 (bQT tB hb) hbox (tZ w hg) (tZ w hg) ?_; clear HB; intro HB BK188 GW188 GE188; clear hb hbox hg; have hcz13_0 : w12.cell? ⟨gb188, 0, none⟩ = some (.int .i64 a0_0) := (kQC BK188.out 0).trans rfl; have hcz13_1 : w12.cell? ⟨gb188, 1, none⟩ = some (.slice A0_1 l0_1.length c0_1) := (kQC BK188.out 1).trans rfl; have hfz13_0 := kQF BK188.out 0; have hfz13_1 := kQF BK188.out 1) | ((with_reducible refine gQc (f := 40) rfl ?_); refine goesL_ (some 5) rfl rfl Try.func40 (by kernel_rfl) rfl #[.agg #[.int .i64 a0_0, .slice A0_1 l0_1.length c0_1]] rfl tL ?_; (with_reducible refine (impl_ValidMatrix.calls k a0_0 _ _ l0_1 false _ ?s1 ?s2 A2.out).mono ?_); (case s1 => exact tC ((Kd.C_below HR0_1.out HB.out))); (case s2 => exact HC0_1.out); rintro e w14 ⟨rfl, hb⟩; refine ⟨_, rfl, ?_⟩; refine qM2 (tQ BK188.out hb) (bQT tB hb) ?_; clear BK188 HB; intro BK188 HB; (try clear hb); (try clear hb2); (try clear hk); (try clear hi)))
 go_ret2
 exact ⟨tE, tB⟩
def impl_EchelonOf.f (k : Nat) (a0_0 : Int) (l0_1 : List Int) : Option (Int × List Int × Int) := (impl_ValidMatrix.f k a0_0 l0_1).bind fun t201 => (if t201 = true then ((impl_Matrix_form.f k a0_0 l0_1).bind fun bt202 => (some (bt202.1, bt202.2, 0))) else (some (0, ([] : List Int), 1)))
theorem impl_EchelonOf.mono : ∀ a0 a1 k, LeO (impl_EchelonOf.f k a0 a1) (impl_EchelonOf.f (k + 1) a0 a1) := by
 intro a0 a1 k
 unfold impl_EchelonOf.f
 repeat' first
  | (with_reducible first | apply impl_Matrix_form.mono | apply impl_ValidMatrix.mono | exact LeO.refl _ | exact LeO.none _ | refine LeO.ite ?_ ?_ | refine LeO.bind ?_ (fun _ => ?_))
  | exact LeO.none _
  | refine LeO.ite ?_ ?_
  | refine LeO.bind ?_ (fun _ => ?_)
theorem impl_EchelonOf.calls (k : Nat) (a0_0 : Int) (A0_1 : Option Addr) (c0_1 : Nat) (l0_1 : List Int) (r1 : Int) (r2 : List Int) (r3 : Int) (w : World) (hr0_1 : Kd.C (Kd.int .i64) w A0_1 l0_1.length l0_1) (hc0_1 : l0_1.length ≤ c0_1) (h : impl_EchelonOf.f k a0_0 l0_1 = some (r1, r2, r3)) :
 Calls Try.prog 11 #[.agg #[.int .i64 a0_0, .slice A0_1 l0_1.length c0_1]] w fun e w' => ∃ v1_ : Value, e = .returned (.tuple #[.agg #[.int .i64 r1, v1_], .int .i64 r3]) ∧ Kd.R (Kd.int .i64) 2 w' w.heap.size (fun _ => True) v1_ r2 ∧ Below w.heap.size w w' := by
 have hu27 := Try.underlying27
 have HR0_1 := Aq.mk hr0_1
 have HC0_1 := Aq.mk hc0_1
 clear hr0_1 hc0_1
 have HB := Aq.mk (Below.refl w.heap.size w)
 have H : ((impl_ValidMatrix.f k a0_0 l0_1).bind fun t201 => (if t201 = true then ((impl_Matrix_form.f k a0_0 l0_1).bind fun bt202 => (some (bt202.1, bt202.2, 0))) else (some (0, ([] : List Int), 1)))) = some (r1, r2, r3) := h
 clear h
 obtain ⟨t201, A2, H⟩ := qBd H
 by_cases c3 : t201 = true
 ·subst c3
  rw [if_pos rfl] at H
  obtain ⟨⟨t202, t203⟩, A4, H⟩ := qBd H
  (try dsimp only at H)
  simp only [Option.some.injEq, Prod.mk.injEq] at H
  obtain ⟨rfl, rfl, rfl⟩ := H
  go_enter Try.func11, Try.ntmps11
  go_wp2_with (first | ((with_reducible refine gQd (N := 1) rfl ?_); refine xQe ?hg (N := 1) ?hd (cs := #[.int .i64 a0_0, .slice A0_1 l0_1.length c0_1]) (t := 27) ?hr ?_; (case hd => rfl); (case hg => rfl); (case hr => exact tH); intro gb199 hg w5 hbox hb; refine qM4 (bQT tB hb) hbox (tZ w hg) (tZ w hg) ?_; clear HB; intro HB BK199 GW199 GE199; clear hb hbox hg) | ((with_reducible refine gQd (N := 2) rfl ?_); refine xQe ?hg (N := 2) ?hd (cs := #[.int .i64 0, .slice none 0 0]) (t := 27) ?hr ?_; (case hd => rfl); (case hg => rfl); (case hr => exact tH); intro gb200 hg w6 hbox hb; refine qM7 (tQ BK199.out hb) (bQT tB hb) hbox (tZ w hg) (tZ w hg) ((by rw [hg]; exact Nat.ne_of_lt (blk_lt (g := gb199) (o := .cells #[.int .i64 a0_0, .slice A0_1 l0_1.length c0_1] 27 (0, 0)) (tG BK199.out)) : gb199 ≠ gb200)) ((by rw [hg]; exact Nat.ne_of_gt (blk_lt (g := gb199) (o := .cells #[.int .i64 a0_0, .slice A0_1 l0_1.length c0_1] 27 (0, 0)) (tG BK199.out)) : gb200 ≠ gb199)) ?_; clear BK199 HB; intro BK199 HB BK200 GW200 GE200 NB199_200 NB200_199; clear hb hbox hg; have hnb7 := NB199_200.out; have hnc7 := NB200_199.out; have hcz8_0 : w6.cell? ⟨gb199, 0, none⟩ = some (.int .i64 a0_0) := (kQC BK199.out 0).trans rfl; have hcz8_1 : w6.cell? ⟨gb199, 1, none⟩ = some (.slice A0_1 l0_1.length c0_1) := (kQC BK199.out 1).trans rfl; have hfz8_0 := kQF BK199.out 0; have hfz8_1 := kQF BK199.out 1) | ((with_reducible refine gQc (f := 40) rfl ?_); refine goesL_ (some 5) rfl rfl Try.func40 (by kernel_rfl) rfl #[.agg #[.int .i64 a0_0, .slice A0_1 l0_1.length c0_1]] rfl tL ?_; (with_reducible refine (impl_ValidMatrix.calls k a0_0 _ _ l0_1 true _ ?s1 ?s2 A2.out).mono ?_); (case s1 => exact tC ((Kd.C_below HR0_1.out HB.out))); (case s2 => exact HC0_1.out); rintro e w9 ⟨rfl, hb⟩; refine ⟨_, rfl, ?_⟩; refine qM3 (tQ BK199.out hb) (tQ BK200.out hb) (bQT tB hb) ?_; clear BK199 BK200 HB; intro BK199 BK200 HB; (try clear hb); (try clear hb2); (try clear hk); (try clear hi); have hcz10_0 : w9.cell? ⟨gb199, 0, none⟩ = some (.int .i64 a0_0) := (kQC BK199.out 0).trans rfl; have hcz10_1 : w9.cell? ⟨gb199, 1, none⟩ = some (.slice A0_1 l0_1.length c0_1) := (kQC BK199.out 1).trans rfl; have hfz10_0 := kQF BK199.out 0; have hfz10_1 := kQF BK199.out 1) | ((with_reducible refine gQc (f := 43) rfl ?_); refine goesL_ (some 9) rfl rfl Try.func43 (by kernel_rfl) rfl #[.agg #[.int .i64 a0_0, .slice A0_1 l0_1.length c0_1]] rfl tL ?_; (with_reducible refine (impl_Matrix_form.calls k a0_0 _ _ l0_1 t202 t203 _ ?s1 ?s2 A4.out).mono ?_); (case s1 => exact tC ((Kd.C_below HR0_1.out HB.out))); (case s2 => exact HC0_1.out); rintro e w11 ⟨v204, rfl, ho0, hb⟩; refine ⟨_, rfl, ?_⟩; refine qM4 (Kd.R_lower ho0 (bQZ tB)) (tQ BK199.out hb) (tQ BK200.out hb) (bQT tB hb) ?_; clear BK199 BK200 HB; intro HO205 BK199 BK200 HB; (try clear hb); (try clear hb2); (try clear hk); (try clear hi); (try clear ho0); have hcz12_0 : w11.cell? ⟨gb200, 0, none⟩ = some (.int .i64 0) := (kQC BK200.out 0).trans rfl; have hcz12_1 : w11.cell? ⟨gb200, 1, none⟩ = some (.slice none 0 0) := (kQC BK200.out 1).trans rfl; have hfz12_0 := kQF BK200.out 0; have hfz12_1 := kQF BK200.out 1; obtain ⟨Ao13, co13, eo13⟩ := Kd.R_slice HO205.out; subst eo13))
  refine bodyPost_ret (results_ct rfl _ _ gb200 27 #[.int .i64 t202, .slice Ao13 t203.length co13] (0, 0) _ rfl (by (with_reducible repeat (first | refine kQN ?_ _ | refine kQD ?_ | refine kQA ?_ _)); refine kQP (cs := #[.int .i64 t202, .slice none 0 0]) ?_ 1 _ rfl; (with_reducible repeat (first | refine kQN ?_ _ | refine kQD ?_ | refine kQA ?_ _)); refine kQP (cs := #[.int .i64 0, .slice none 0 0]) ?_ 0 _ rfl; (with_reducible repeat (first | refine kQN ?_ _ | refine kQD ?_ | refine kQA ?_ _)); exact BK200.out) Try.underlying27 rfl (by kernel_rfl)) rfl ?_
  exact ⟨_, tE, by (with_reducible repeat (first | apply Kd.RqA | apply Kd.RqN | apply Kd.RqD)); exact Kd.R_mono (Kd.R_far (p := ⟨gb200, 1, none⟩) (Kd.R_far (p := ⟨gb200, 0, none⟩) (Kd.R_types HO205.out BK200.out (by decide)) (fun _ hk => hk.2) (.int .i64 t202)) (fun _ hk => hk.2) (.slice Ao13 t203.length co13)) (fun _ hk => trivial), tB⟩
 replace c3 := Bool.eq_false_iff.mpr c3
 subst c3
 rw [if_neg (show ¬ (false = true) by decide)] at H
 simp only [Option.some.injEq, Prod.mk.injEq] at H
 obtain ⟨rfl, rfl, rfl⟩ := H
 go_enter Try.func11, Try.ntmps11
 go_wp2_with (first | ((with_reducible refine gQd (N := 1) rfl ?_); refine xQe ?hg (N := 1) ?hd (cs := #[.int .i64 a0_0, .slice A0_1 l0_1.length c0_1]) (t := 27) ?hr ?_; (case hd => rfl); (case hg => rfl); (case hr => exact tH); intro gb199 hg w14 hbox hb; refine qM4 (bQT tB hb) hbox (tZ w hg) (tZ w hg) ?_; clear HB; intro HB BK199 GW199 GE199; clear hb hbox hg) | ((with_reducible refine gQd (N := 2) rfl ?_); refine xQe ?hg (N := 2) ?hd (cs := #[.int .i64 0, .slice none 0 0]) (t := 27) ?hr ?_; (case hd => rfl); (case hg => rfl); (case hr => exact tH); intro gb200 hg w15 hbox hb; refine qM7 (tQ BK199.out hb) (bQT tB hb) hbox (tZ w hg) (tZ w hg) ((by rw [hg]; exact Nat.ne_of_lt (blk_lt (g := gb199) (o := .cells #[.int .i64 a0_0, .slice A0_1 l0_1.length c0_1] 27 (0, 0)) (tG BK199.out)) : gb199 ≠ gb200)) ((by rw [hg]; exact Nat.ne_of_gt (blk_lt (g := gb199) (o := .cells #[.int .i64 a0_0, .slice A0_1 l0_1.length c0_1] 27 (0, 0)) (tG BK199.out)) : gb200 ≠ gb199)) ?_; clear BK199 HB; intro BK199 HB BK200 GW200 GE200 NB199_200 NB200_199; clear hb hbox hg; have hnb16 := NB199_200.out; have hnc16 := NB200_199.out; have hcz17_0 : w15.cell? ⟨gb199, 0, none⟩ = some (.int .i64 a0_0) := (kQC BK199.out 0).trans rfl; have hcz17_1 : w15.cell? ⟨gb199, 1, none⟩ = some (.slice A0_1 l0_1.length c0_1) := (kQC BK199.out 1).trans rfl; have hfz17_0 := kQF BK199.out 0; have hfz17_1 := kQF BK199.out 1) | ((with_reducible refine gQc (f := 40) rfl ?_); refine goesL_ (some 5) rfl rfl Try.func40 (by kernel_rfl) rfl #[.agg #[.int .i64 a0_0, .slice A0_1 l0_1.length c0_1]] rfl tL ?_; (with_reducible refine (impl_ValidMatrix.calls k a0_0 _ _ l0_1 false _ ?s1 ?s2 A2.out).mono ?_); (case s1 => exact tC ((Kd.C_below HR0_1.out HB.out))); (case s2 => exact HC0_1.out); rintro e w18 ⟨rfl, hb⟩; refine ⟨_, rfl, ?_⟩; refine qM3 (tQ BK199.out hb) (tQ BK200.out hb) (bQT tB hb) ?_; clear BK199 BK200 HB; intro BK199 BK200 HB; (try clear hb); (try clear hb2); (try clear hk); (try clear hi); have hcz19_0 : w18.cell? ⟨gb200, 0, none⟩ = some (.int .i64 0) := (kQC BK200.out 0).trans rfl; have hcz19_1 : w18.cell? ⟨gb200, 1, none⟩ = some (.slice none 0 0) := (kQC BK200.out 1).trans rfl; have hfz19_0 := kQF BK200.out 0; have hfz19_1 := kQF BK200.out 1))
 refine bodyPost_ret (results_ct rfl _ _ gb200 27 #[.int .i64 0, .slice none 0 0] (0, 0) _ rfl (by (with_reducible repeat (first | refine kQN ?_ _ | refine kQD ?_ | refine kQA ?_ _)); refine kQP (cs := #[.int .i64 0, .slice none 0 0]) ?_ 1 _ rfl; (with_reducible repeat (first | refine kQN ?_ _ | refine kQD ?_ | refine kQA ?_ _)); refine kQP (cs := #[.int .i64 0, .slice none 0 0]) ?_ 0 _ rfl; (with_reducible repeat (first | refine kQN ?_ _ | refine kQD ?_ | refine kQA ?_ _)); exact BK200.out) Try.underlying27 rfl (by kernel_rfl)) rfl ?_
 exact ⟨_, tE, by first | exact Kd.R_nil _ _ _ _ _ | exact Kd.N_nil _ _ _ _ _ | exact Kd.V_nil _ _ _ _ _ | exact Kd.Q_nil _ _ _ _ _ | exact Kd.S_nil _ _ _ _ _, tB⟩
def impl_SpaceOf.f (k : Nat) (a0_0 : Int) (l0_1 : List Int) : Option (Int × List Int × Int) := (impl_EchelonOf.f k a0_0 l0_1).bind fun bt208 => (some (bt208.1, bt208.2.1, bt208.2.2))
theorem impl_SpaceOf.mono : ∀ a0 a1 k, LeO (impl_SpaceOf.f k a0 a1) (impl_SpaceOf.f (k + 1) a0 a1) := by
 intro a0 a1 k
 unfold impl_SpaceOf.f
 repeat' first
  | (with_reducible first | apply impl_EchelonOf.mono | exact LeO.refl _ | exact LeO.none _ | refine LeO.ite ?_ ?_ | refine LeO.bind ?_ (fun _ => ?_))
  | exact LeO.none _
  | refine LeO.ite ?_ ?_
  | refine LeO.bind ?_ (fun _ => ?_)
theorem impl_SpaceOf.calls (k : Nat) (a0_0 : Int) (A0_1 : Option Addr) (c0_1 : Nat) (l0_1 : List Int) (r1 : Int) (r2 : List Int) (r3 : Int) (w : World) (hr0_1 : Kd.C (Kd.int .i64) w A0_1 l0_1.length l0_1) (hc0_1 : l0_1.length ≤ c0_1) (h : impl_SpaceOf.f k a0_0 l0_1 = some (r1, r2, r3)) :
 Calls Try.prog 12 #[.agg #[.int .i64 a0_0, .slice A0_1 l0_1.length c0_1]] w fun e w' => ∃ v1_ : Value, e = .returned (.tuple #[.agg #[.int .i64 r1, v1_], .int .i64 r3]) ∧ Kd.R (Kd.int .i64) 2 w' w.heap.size (fun _ => True) v1_ r2 ∧ Below w.heap.size w w' := by
 have hu27 := Try.underlying27
 have HR0_1 := Aq.mk hr0_1
 have HC0_1 := Aq.mk hc0_1
 clear hr0_1 hc0_1
 have HB := Aq.mk (Below.refl w.heap.size w)
 have H : ((impl_EchelonOf.f k a0_0 l0_1).bind fun bt208 => (some (bt208.1, bt208.2.1, bt208.2.2))) = some (r1, r2, r3) := h
 clear h
 obtain ⟨⟨t208, t209, t212⟩, A2, H⟩ := qBd H
 (try dsimp only at H)
 simp only [Option.some.injEq, Prod.mk.injEq] at H
 obtain ⟨rfl, rfl, rfl⟩ := H
 go_enter Try.func12, Try.ntmps12
 go_wp2_with (first | ((with_reducible refine gQd (N := 1) rfl ?_); refine xQe ?hg (N := 1) ?hd (cs := #[.int .i64 a0_0, .slice A0_1 l0_1.length c0_1]) (t := 27) ?hr ?_; (case hd => rfl); (case hg => rfl); (case hr => exact tH); intro gb206 hg w3 hbox hb; refine qM4 (bQT tB hb) hbox (tZ w hg) (tZ w hg) ?_; clear HB; intro HB BK206 GW206 GE206; clear hb hbox hg) | ((with_reducible refine gQd (N := 2) rfl ?_); refine xQe ?hg (N := 2) ?hd (cs := #[.int .i64 0, .slice none 0 0]) (t := 27) ?hr ?_; (case hd => rfl); (case hg => rfl); (case hr => exact tH); intro gb207 hg w4 hbox hb; refine qM7 (tQ BK206.out hb) (bQT tB hb) hbox (tZ w hg) (tZ w hg) ((by rw [hg]; exact Nat.ne_of_lt (blk_lt (g := gb206) (o := .cells #[.int .i64 a0_0, .slice A0_1 l0_1.length c0_1] 27 (0, 0)) (tG BK206.out)) : gb206 ≠ gb207)) ((by rw [hg]; exact Nat.ne_of_gt (blk_lt (g := gb206) (o := .cells #[.int .i64 a0_0, .slice A0_1 l0_1.length c0_1] 27 (0, 0)) (tG BK206.out)) : gb207 ≠ gb206)) ?_; clear BK206 HB; intro BK206 HB BK207 GW207 GE207 NB206_207 NB207_206; clear hb hbox hg; have hnb5 := NB206_207.out; have hnc5 := NB207_206.out; have hcz6_0 : w4.cell? ⟨gb206, 0, none⟩ = some (.int .i64 a0_0) := (kQC BK206.out 0).trans rfl; have hcz6_1 : w4.cell? ⟨gb206, 1, none⟩ = some (.slice A0_1 l0_1.length c0_1) := (kQC BK206.out 1).trans rfl; have hfz6_0 := kQF BK206.out 0; have hfz6_1 := kQF BK206.out 1) | ((with_reducible refine gQc (f := 11) rfl ?_); refine goesL_ (some 5) rfl rfl Try.func11 (by kernel_rfl) rfl #[.agg #[.int .i64 a0_0, .slice A0_1 l0_1.length c0_1]] rfl tL ?_; (with_reducible refine (impl_EchelonOf.calls k a0_0 _ _ l0_1 t208 t209 t212 _ ?s1 ?s2 A2.out).mono ?_); (case s1 => exact tC ((Kd.C_below HR0_1.out HB.out))); (case s2 => exact HC0_1.out); rintro e w7 ⟨v210, rfl, ho0, hb⟩; refine ⟨_, rfl, ?_⟩; refine qM4 (Kd.R_lower ho0 (bQZ tB)) (tQ BK206.out hb) (tQ BK207.out hb) (bQT tB hb) ?_; clear BK206 BK207 HB; intro HO211 BK206 BK207 HB; (try clear hb); (try clear hb2); (try clear hk); (try clear hi); (try clear ho0); have hcz8_0 : w7.cell? ⟨gb207, 0, none⟩ = some (.int .i64 0) := (kQC BK207.out 0).trans rfl; have hcz8_1 : w7.cell? ⟨gb207, 1, none⟩ = some (.slice none 0 0) := (kQC BK207.out 1).trans rfl; have hfz8_0 := kQF BK207.out 0; have hfz8_1 := kQF BK207.out 1; obtain ⟨Ao9, co9, eo9⟩ := Kd.R_slice HO211.out; subst eo9))
 refine bodyPost_ret (results_ct rfl _ _ gb207 27 #[.int .i64 t208, .slice Ao9 t209.length co9] (0, 0) _ rfl (by (with_reducible repeat (first | refine kQN ?_ _ | refine kQD ?_ | refine kQA ?_ _)); refine kQP (cs := #[.int .i64 t208, .slice none 0 0]) ?_ 1 _ rfl; (with_reducible repeat (first | refine kQN ?_ _ | refine kQD ?_ | refine kQA ?_ _)); refine kQP (cs := #[.int .i64 0, .slice none 0 0]) ?_ 0 _ rfl; (with_reducible repeat (first | refine kQN ?_ _ | refine kQD ?_ | refine kQA ?_ _)); exact BK207.out) Try.underlying27 rfl (by kernel_rfl)) rfl ?_
 exact ⟨_, tE, by (with_reducible repeat (first | apply Kd.RqA | apply Kd.RqN | apply Kd.RqD)); exact Kd.R_mono (Kd.R_far (p := ⟨gb207, 1, none⟩) (Kd.R_far (p := ⟨gb207, 0, none⟩) (Kd.R_types HO211.out BK207.out (by decide)) (fun _ hk => hk.2) (.int .i64 t208)) (fun _ hk => hk.2) (.slice Ao9 t209.length co9)) (fun _ hk => trivial), tB⟩
def impl_SolveRows_1.f (a0_0 : Int) (l0_1 : List Int) (a1_0 : Int) : Option (Bool) := (impl_Matrix_has.f a0_0 l0_1 a1_0).bind fun t264 => (some t264)
theorem impl_SolveRows_1.calls (g0_0 : Addr) (a0_0 : Int) (A0_1 : Option Addr) (c0_1 : Nat) (l0_1 : List Int) (g1_0 : Addr) (a1_0 : Int) (r : Bool) (w : World) (hr0_1 : Kd.C (Kd.int .i64) w A0_1 l0_1.length l0_1) (hc0_1 : l0_1.length ≤ c0_1) (hb0_0 : AtC w g0_0 [.int .i64 a0_0, .slice A0_1 l0_1.length c0_1]) (hb1_0 : AtC w g1_0 [.int .i64 a1_0]) (h : impl_SolveRows_1.f a0_0 l0_1 a1_0 = some r) :
 Calls Try.prog 48 #[.pointer (some g0_0), .pointer (some g1_0)] w fun e w' => e = .returned (.bool r) ∧ Below w.heap.size w w' := by
 have hu27 := Try.underlying27
 have HR0_1 := Aq.mk hr0_1
 have HC0_1 := Aq.mk hc0_1
 clear hr0_1 hc0_1
 have BK40 := Aq.mk hb0_0
 clear hb0_0
 have BK48 := Aq.mk hb1_0
 clear hb1_0
 have HB := Aq.mk (Below.refl w.heap.size w)
 have H : ((impl_Matrix_has.f a0_0 l0_1 a1_0).bind fun t264 => (some t264)) = some r := h
 clear h
 obtain ⟨t264, A3, H⟩ := qBd H
 obtain rfl := Option.some.inj H
 have hcz4_0 : w.cell? g0_0 = some (.int .i64 a0_0) := AtC.cell0 BK40.out _ rfl
 have hcz4_1 : w.cell? ⟨g0_0.block, g0_0.off + 1, none⟩ = some (.slice A0_1 l0_1.length c0_1) := AtC.cell BK40.out 1 _ (by decide) rfl
 have hcz5_0 : w.cell? g1_0 = some (.int .i64 a1_0) := AtC.cell0 BK48.out _ rfl
 go_enter Try.func48, Try.ntmps48
 go_wp2_with (first | ((with_reducible refine gQc (f := 49) rfl ?_); refine goesL_ (some 5) rfl rfl Try.func49 (by kernel_rfl) rfl #[.agg #[.int .i64 a0_0, .slice A0_1 l0_1.length c0_1], .int .i64 a1_0] rfl tL ?_; (with_reducible refine (impl_Matrix_has.calls a0_0 _ _ l0_1 a1_0 t264 _ ?s1 ?s2 A3.out).mono ?_); (case s1 => exact tC HR0_1.out); (case s2 => exact HC0_1.out); rintro e w6 ⟨rfl, hb⟩; refine ⟨_, rfl, ?_⟩; refine qM1 (bQT tB hb) ?_; clear HB; intro HB; (try clear hb); (try clear hb2); (try clear hk); (try clear hi)))
 go_ret
 exact ⟨tE, tB⟩
def impl_matricesCode_1.f (k : Nat) (a0_0 : Int) (l0_1 : List Int) : Option (Bool) := (impl_ValidMatrix.f k a0_0 l0_1).bind fun t266 => (some (!t266))
theorem impl_matricesCode_1.mono : ∀ a0 a1 k, LeO (impl_matricesCode_1.f k a0 a1) (impl_matricesCode_1.f (k + 1) a0 a1) := by
 intro a0 a1 k
 unfold impl_matricesCode_1.f
 repeat' first
  | (with_reducible first | apply impl_ValidMatrix.mono | exact LeO.refl _ | exact LeO.none _ | refine LeO.ite ?_ ?_ | refine LeO.bind ?_ (fun _ => ?_))
  | exact LeO.none _
  | refine LeO.ite ?_ ?_
  | refine LeO.bind ?_ (fun _ => ?_)
theorem impl_matricesCode_1.calls (k : Nat) (a0_0 : Int) (A0_1 : Option Addr) (c0_1 : Nat) (l0_1 : List Int) (r : Bool) (w : World) (hr0_1 : Kd.C (Kd.int .i64) w A0_1 l0_1.length l0_1) (hc0_1 : l0_1.length ≤ c0_1) (h : impl_matricesCode_1.f k a0_0 l0_1 = some r) :
 Calls Try.prog 90 #[.agg #[.int .i64 a0_0, .slice A0_1 l0_1.length c0_1]] w fun e w' => e = .returned (.bool r) ∧ Below w.heap.size w w' := by
 have hu27 := Try.underlying27
 have HR0_1 := Aq.mk hr0_1
 have HC0_1 := Aq.mk hc0_1
 clear hr0_1 hc0_1
 have HB := Aq.mk (Below.refl w.heap.size w)
 have H : ((impl_ValidMatrix.f k a0_0 l0_1).bind fun t266 => (some (!t266))) = some r := h
 clear h
 obtain ⟨t266, A2, H⟩ := qBd H
 obtain rfl := Option.some.inj H
 go_enter Try.func90, Try.ntmps90
 go_wp2_with (first | ((with_reducible refine gQd (N := 1) rfl ?_); refine xQe ?hg (N := 1) ?hd (cs := #[.int .i64 a0_0, .slice A0_1 l0_1.length c0_1]) (t := 27) ?hr ?_; (case hd => rfl); (case hg => rfl); (case hr => exact tH); intro gb265 hg w3 hbox hb; refine qM4 (bQT tB hb) hbox (tZ w hg) (tZ w hg) ?_; clear HB; intro HB BK265 GW265 GE265; clear hb hbox hg; have hcz4_0 : w3.cell? ⟨gb265, 0, none⟩ = some (.int .i64 a0_0) := (kQC BK265.out 0).trans rfl; have hcz4_1 : w3.cell? ⟨gb265, 1, none⟩ = some (.slice A0_1 l0_1.length c0_1) := (kQC BK265.out 1).trans rfl; have hfz4_0 := kQF BK265.out 0; have hfz4_1 := kQF BK265.out 1) | ((with_reducible refine gQc (f := 40) rfl ?_); refine goesL_ (some 4) rfl rfl Try.func40 (by kernel_rfl) rfl #[.agg #[.int .i64 a0_0, .slice A0_1 l0_1.length c0_1]] rfl tL ?_; (with_reducible refine (impl_ValidMatrix.calls k a0_0 _ _ l0_1 t266 _ ?s1 ?s2 A2.out).mono ?_); (case s1 => exact tC ((Kd.C_below HR0_1.out HB.out))); (case s2 => exact HC0_1.out); rintro e w5 ⟨rfl, hb⟩; refine ⟨_, rfl, ?_⟩; refine qM2 (tQ BK265.out hb) (bQT tB hb) ?_; clear BK265 HB; intro BK265 HB; (try clear hb); (try clear hb2); (try clear hk); (try clear hi)))
 go_ret
 exact ⟨tE, tB⟩
def impl_Matrix_AT_impl_matricesCode_1_105.l0 : Nat → List (S27) → Int → Int → Option (Int)
  | 0, _, _, _ => none
  | k + 1, x0, x7, x8 => if x8 < x7 then (if 0 ≤ x8 then (if x8 < (x0.length : Int) then ((impl_matricesCode_1.f k ((rd_T27 x0 x8).f0) ((rd_T27 x0 x8).f1)).bind fun t268 => (if t268 = true then (some x8) else (impl_Matrix_AT_impl_matricesCode_1_105.l0 k x0 x7 (wrap64 (x8 + 1))))) else (none)) else (none)) else (some (-1))
def impl_Matrix_AT_impl_matricesCode_1_105.f (k : Nat) (l0 : List (S27))  : Option (Int) := impl_Matrix_AT_impl_matricesCode_1_105.l0 k l0 (l0.length : Int) 0
theorem impl_Matrix_AT_impl_matricesCode_1_105.mono_l : ∀ k, (∀ y0 y1 y2, LeO (impl_Matrix_AT_impl_matricesCode_1_105.l0 k y0 y1 y2) (impl_Matrix_AT_impl_matricesCode_1_105.l0 (k + 1) y0 y1 y2))
 | 0 => fun _ _ _ r h => by simp [impl_Matrix_AT_impl_matricesCode_1_105.l0] at h
 | k + 1 => by
  have ih0 := impl_Matrix_AT_impl_matricesCode_1_105.mono_l k
  ·intro y0 y1 y2
   unfold impl_Matrix_AT_impl_matricesCode_1_105.l0
   repeat' first
   | (with_reducible first | apply ih0 | apply impl_matricesCode_1.mono | exact LeO.refl _ | exact LeO.none _ | refine LeO.ite ?_ ?_ | refine LeO.bind ?_ (fun _ => ?_))
   | exact LeO.none _
   | refine LeO.ite ?_ ?_
   | refine LeO.bind ?_ (fun _ => ?_)
theorem impl_Matrix_AT_impl_matricesCode_1_105.mono : ∀ a0 k, LeO (impl_Matrix_AT_impl_matricesCode_1_105.f k a0) (impl_Matrix_AT_impl_matricesCode_1_105.f (k + 1) a0) := by
 intro a0 k
 have ih0 := impl_Matrix_AT_impl_matricesCode_1_105.mono_l k
 unfold impl_Matrix_AT_impl_matricesCode_1_105.f
 repeat' first
  | (with_reducible first | apply ih0 | apply impl_matricesCode_1.mono | exact LeO.refl _ | exact LeO.none _ | refine LeO.ite ?_ ?_ | refine LeO.bind ?_ (fun _ => ?_))
  | exact LeO.none _
  | refine LeO.ite ?_ ?_
  | refine LeO.bind ?_ (fun _ => ?_)
theorem impl_Matrix_AT_impl_matricesCode_1_105.calls (k : Nat) (A0 : Option Addr) (c0 : Nat) (l0 : List (S27))  (r : Int) (w : World) (hr0 : Kd.C k27 w A0 l0.length l0) (hc0 : l0.length ≤ c0) (h : impl_Matrix_AT_impl_matricesCode_1_105.f k l0 = some r) :
 Calls Try.prog 105 #[.slice A0 l0.length c0, .func (.func 90) #[] #[]] w fun e w' => e = .returned (.int .i64 r) ∧ Below w.heap.size w w' := by
 have hu27 := Try.underlying27
 have eg90 : ∀ (args_ : Array Value) (w_ : World), (callFunc 90 args_).run Try.prog w_ = .ok (.enter 90 args_) w_ := enters_of Try.func90 (by kernel_rfl) rfl
 have HR0 := Aq.mk hr0
 have HC0 := Aq.mk hc0
 clear hr0 hc0
 have HB := Aq.mk (Below.refl w.heap.size w)
 have H : (impl_Matrix_AT_impl_matricesCode_1_105.l0 k l0 (l0.length : Int) 0) = some r := h
 clear h
 replace H' := Aq.mk H
 clear H
 go_enter Try.func105, Try.ntmps105
 go_wp2
 go_loopg [8] k (fun kq v8 w' => ∃ (x8_1 : Int), v8 = .int .i64 x8_1 ∧ Aq (impl_Matrix_AT_impl_matricesCode_1_105.l0 kq l0 (l0.length : Int) x8_1 = some r) ∧ Aq (kq ≤ k) ∧ Aq (Below w.heap.size w w'))
 case atStart => exact ⟨(0), tS, H', ⟨Nat.le_refl _⟩, ⟨tB⟩⟩
 clear H'
 obtain ⟨x8_1, rfl, HA, HK1, HB⟩ := hrel
 cases gk with
 | zero => exact absurd HA.out (by simp [impl_Matrix_AT_impl_matricesCode_1_105.l0])
 | succ k1 =>
  have H := HA.out
  clear HA
  simp only [impl_Matrix_AT_impl_matricesCode_1_105.l0] at H
  by_cases c3 : x8_1 < (l0.length : Int)
  rotate_left
  ·rw [if_neg c3] at H
   have c3b0 := decide_eq_false c3
   clear c3
   obtain rfl := Option.some.inj H
   go_wp2
   go_ret
   exact ⟨tE, tB⟩
  rw [if_pos c3] at H
  have c3b0 := decide_eq_true c3
  clear c3
  by_cases c4 : 0 ≤ x8_1
  rotate_left
  ·rw [if_neg c4] at H
   exact absurd H (by simp)
  rw [if_pos c4] at H
  have c4b0 := decide_eq_true c4
  clear c4
  by_cases c5 : x8_1 < (l0.length : Int)
  rotate_left
  ·rw [if_neg c5] at H
   exact absurd H (by simp)
  rw [if_pos c5] at H
  have c5b0 := decide_eq_true c5
  clear c5
  obtain ⟨t268, A6, H⟩ := qBd H
  by_cases c7 : t268 = true
  ·subst c7
   rw [if_pos rfl] at H
   obtain rfl := Option.some.inj H
   have p267 : 0 ≤ (x8_1 : Int) := of_decide_eq_true tA
   have q267 : x8_1 < (l0.length : Int) := of_decide_eq_true tA
   obtain ⟨ad267, A267_1, c267_1, e267, hx267_0, hx267_1, hl267_1, hi267_1⟩ := at_T27 HR0.out x8_1 p267 q267
   cases e267
   replace hx267_0 := (HB.out.cell (World.block_lt_of_cell? w _ hx267_0)).trans hx267_0
   replace hx267_1 := (HB.out.cell (World.block_lt_of_cell? w _ hx267_1)).trans hx267_1
   have HR267_1 := Aq.mk hi267_1
   have HC267_1 := Aq.mk hl267_1
   clear hi267_1 hl267_1
   replace p267 := eq_true p267
   replace q267 := eq_true q267
   go_wp2_with (first | (go_at_fn 90; (with_reducible refine (impl_matricesCode_1.calls k1 ((rd_T27 l0 x8_1).f0) _ _ ((rd_T27 l0 x8_1).f1) true _ ?s1 ?s2 A6.out).mono ?_); (case s1 => exact tC ((Kd.C_below HR267_1.out HB.out))); (case s2 => exact HC267_1.out); rintro e w8 ⟨rfl, hb⟩; refine qM1 (bQT tB hb) ?_; clear HB; intro HB; (try clear hb); (try clear hb2); (try clear hk); (try clear hi)))
   go_ret
   exact ⟨tE, tB⟩
  replace c7 := Bool.eq_false_iff.mpr c7
  subst c7
  rw [if_neg (show ¬ (false = true) by decide)] at H
  replace H' := Aq.mk H
  clear H
  have p267 : 0 ≤ (x8_1 : Int) := of_decide_eq_true tA
  have q267 : x8_1 < (l0.length : Int) := of_decide_eq_true tA
  obtain ⟨ad267, A267_1, c267_1, e267, hx267_0, hx267_1, hl267_1, hi267_1⟩ := at_T27 HR0.out x8_1 p267 q267
  cases e267
  replace hx267_0 := (HB.out.cell (World.block_lt_of_cell? w _ hx267_0)).trans hx267_0
  replace hx267_1 := (HB.out.cell (World.block_lt_of_cell? w _ hx267_1)).trans hx267_1
  have HR267_1 := Aq.mk hi267_1
  have HC267_1 := Aq.mk hl267_1
  clear hi267_1 hl267_1
  replace p267 := eq_true p267
  replace q267 := eq_true q267
  go_wp2_with (first | (go_at_fn 90; (with_reducible refine (impl_matricesCode_1.calls k1 ((rd_T27 l0 x8_1).f0) _ _ ((rd_T27 l0 x8_1).f1) false _ ?s1 ?s2 A6.out).mono ?_); (case s1 => exact tC ((Kd.C_below HR267_1.out HB.out))); (case s2 => exact HC267_1.out); rintro e w9 ⟨rfl, hb⟩; refine qM1 (bQT tB hb) ?_; clear HB; intro HB; (try clear hb); (try clear hb2); (try clear hk); (try clear hi)))
  go_roundg k1
  case measure => have := HK1.out; omega
  case rel => exact ⟨(wrap64 (x8_1 + 1)), tS, H', ⟨by have := HK1.out; omega⟩, ⟨tB⟩⟩
def impl_Matrix_AT_impl_matricesCode_1_89.f (k : Nat) (l0 : List (S27))  : Option (Bool) := (impl_Matrix_AT_impl_matricesCode_1_105.f k l0).bind fun t269 => (some (decide (t269 ≥ 0)))
theorem impl_Matrix_AT_impl_matricesCode_1_89.mono : ∀ a0 k, LeO (impl_Matrix_AT_impl_matricesCode_1_89.f k a0) (impl_Matrix_AT_impl_matricesCode_1_89.f (k + 1) a0) := by
 intro a0 k
 unfold impl_Matrix_AT_impl_matricesCode_1_89.f
 repeat' first
  | (with_reducible first | apply impl_Matrix_AT_impl_matricesCode_1_105.mono | exact LeO.refl _ | exact LeO.none _ | refine LeO.ite ?_ ?_ | refine LeO.bind ?_ (fun _ => ?_))
  | exact LeO.none _
  | refine LeO.ite ?_ ?_
  | refine LeO.bind ?_ (fun _ => ?_)
theorem impl_Matrix_AT_impl_matricesCode_1_89.calls (k : Nat) (A0 : Option Addr) (c0 : Nat) (l0 : List (S27))  (r : Bool) (w : World) (hr0 : Kd.C k27 w A0 l0.length l0) (hc0 : l0.length ≤ c0) (h : impl_Matrix_AT_impl_matricesCode_1_89.f k l0 = some r) :
 Calls Try.prog 89 #[.slice A0 l0.length c0, .func (.func 90) #[] #[]] w fun e w' => e = .returned (.bool r) ∧ Below w.heap.size w w' := by
 have HR0 := Aq.mk hr0
 have HC0 := Aq.mk hc0
 clear hr0 hc0
 have HB := Aq.mk (Below.refl w.heap.size w)
 have H : ((impl_Matrix_AT_impl_matricesCode_1_105.f k l0).bind fun t269 => (some (decide (t269 ≥ 0)))) = some r := h
 clear h
 obtain ⟨t269, A3, H⟩ := qBd H
 obtain rfl := Option.some.inj H
 go_enter Try.func89, Try.ntmps89
 go_wp2_with (first | ((with_reducible refine gQc (f := 105) rfl ?_); refine goesL_ (some 7) rfl rfl Try.func105 (by kernel_rfl) rfl #[.slice A0 l0.length c0, .func (.func 90) #[] #[]] rfl tL ?_; (with_reducible refine (impl_Matrix_AT_impl_matricesCode_1_105.calls k _ _ l0  t269 _ ?s1 ?s2 A3.out).mono ?_); (case s1 => exact tC HR0.out); (case s2 => exact HC0.out); rintro e w4 ⟨rfl, hb⟩; refine ⟨_, rfl, ?_⟩; refine qM1 (bQT tB hb) ?_; clear HB; intro HB; (try clear hb); (try clear hb2); (try clear hk); (try clear hi)))
 go_ret
 exact ⟨tE, tB⟩
end Go.Proofs.Ythjfilmdobkmlaa.P
