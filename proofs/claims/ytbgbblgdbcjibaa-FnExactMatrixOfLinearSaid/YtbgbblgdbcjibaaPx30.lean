/- Functions of the program and what they tell, as the printing program wrote it. -/
import Derived.Test.YtbgbblgdbcjibaaPx0
import Derived.Test.YtbgbblgdbcjibaaPx5
import Derived.Test.YtbgbblgdbcjibaaPx7
namespace Go.Proofs.Ytbgbblgdbcjibaa.P
open Go.Shelf Go.RowKit Go.Proofs.YtbgbblgdbcjibaaW.PrintWords Go.Proofs.YtbgbblgdbcjibaaW.PrintLast Go.Proofs.YtbgbblgdbcjibaaW.PrintMore
attribute [local go_sem] max2_int min2_int max_two min_two max_three min_three max_four min_four
set_option linter.unusedVariables false
set_option linter.unusedSimpArgs false
set_option maxHeartbeats 8000000
set_option maxRecDepth 100000
def laws_eqMatrix.f (k : Nat) (a0_0 : Int) (l0_1 : List Int) (a1_0 : Int) (l1_1 : List Int) : Option (Bool) := if a0_0 = a1_0 then ((laws_eqInt64S.f k l0_1 l1_1).bind fun t568 => (if t568 = true then (some true) else (some false))) else (some false)
theorem laws_eqMatrix.mono : ∀ a0 a1 a2 a3 k, LeO (laws_eqMatrix.f k a0 a1 a2 a3) (laws_eqMatrix.f (k + 1) a0 a1 a2 a3) := by
 intro a0 a1 a2 a3 k
 unfold laws_eqMatrix.f
 repeat' first
  | (with_reducible first | apply laws_eqInt64S.mono | exact LeO.refl _ | exact LeO.none _ | refine LeO.ite ?_ ?_ | refine LeO.bind ?_ (fun _ => ?_))
  | exact LeO.none _
  | refine LeO.ite ?_ ?_
  | refine LeO.bind ?_ (fun _ => ?_)
theorem laws_eqMatrix.calls (k : Nat) (a0_0 : Int) (A0_1 : Option Addr) (c0_1 : Nat) (l0_1 : List Int) (a1_0 : Int) (A1_1 : Option Addr) (c1_1 : Nat) (l1_1 : List Int) (r : Bool) (w : World) (hr0_1 : Kd.C (Kd.int .i64) w A0_1 l0_1.length l0_1) (hc0_1 : l0_1.length ≤ c0_1) (hr1_1 : Kd.C (Kd.int .i64) w A1_1 l1_1.length l1_1) (hc1_1 : l1_1.length ≤ c1_1) (h : laws_eqMatrix.f k a0_0 l0_1 a1_0 l1_1 = some r) :
 Calls Try.prog 26 #[.agg #[.int .i64 a0_0, .slice A0_1 l0_1.length c0_1], .agg #[.int .i64 a1_0, .slice A1_1 l1_1.length c1_1]] w fun e w' => e = .returned (.bool r) ∧ Below w.heap.size w w' := by
 have hu41 := Try.underlying41
 have HR0_1 := Aq.mk hr0_1
 have HC0_1 := Aq.mk hc0_1
 clear hr0_1 hc0_1
 have HR1_1 := Aq.mk hr1_1
 have HC1_1 := Aq.mk hc1_1
 clear hr1_1 hc1_1
 have HB := Aq.mk (Below.refl w.heap.size w)
 have H : (if a0_0 = a1_0 then ((laws_eqInt64S.f k l0_1 l1_1).bind fun t568 => (if t568 = true then (some true) else (some false))) else (some false)) = some r := h
 clear h
 by_cases c3 : a0_0 = a1_0
 rotate_left
 ·rw [if_neg c3] at H
  have c3b0 := beq_eq_false_iff_ne.mpr c3
  have c3b1 := bne_iff_ne.mpr c3
  obtain rfl := Option.some.inj H
  go_enter Try.func26, Try.ntmps26
  go_wp2_with (first | ((with_reducible refine gQd (N := 2) rfl ?_); refine xQe ?hg (N := 2) ?hd (cs := #[.int .i64 a0_0, .slice A0_1 l0_1.length c0_1]) (t := 41) ?hr ?_; (case hd => rfl); (case hg => rfl); (case hr => exact tH); intro gb566 hg w16 hbox hb; refine qM4 (bQT tB hb) hbox (tZ w hg) (tZ w hg) ?_; clear HB; intro HB BK566 GW566 GE566; clear hb hbox hg) | ((with_reducible refine gQd (N := 3) rfl ?_); refine xQe ?hg (N := 3) ?hd (cs := #[.int .i64 a1_0, .slice A1_1 l1_1.length c1_1]) (t := 41) ?hr ?_; (case hd => rfl); (case hg => rfl); (case hr => exact tH); intro gb567 hg w17 hbox hb; refine qM7 (tQ BK566.out hb) (bQT tB hb) hbox (tZ w hg) (tZ w hg) ((by rw [hg]; exact Nat.ne_of_lt (blk_lt (g := gb566) (o := .cells #[.int .i64 a0_0, .slice A0_1 l0_1.length c0_1] 41 (0, 0)) (tG BK566.out)) : gb566 ≠ gb567)) ((by rw [hg]; exact Nat.ne_of_gt (blk_lt (g := gb566) (o := .cells #[.int .i64 a0_0, .slice A0_1 l0_1.length c0_1] 41 (0, 0)) (tG BK566.out)) : gb567 ≠ gb566)) ?_; clear BK566 HB; intro BK566 HB BK567 GW567 GE567 NB566_567 NB567_566; clear hb hbox hg; have hnb18 := NB566_567.out; have hnc18 := NB567_566.out; have hcz19_0 : w17.cell? ⟨gb566, 0, none⟩ = some (.int .i64 a0_0) := (kQC BK566.out 0).trans rfl; have hcz19_1 : w17.cell? ⟨gb566, 1, none⟩ = some (.slice A0_1 l0_1.length c0_1) := (kQC BK566.out 1).trans rfl; have hfz19_0 := kQF BK566.out 0; have hfz19_1 := kQF BK566.out 1; have hcz20_0 : w17.cell? ⟨gb567, 0, none⟩ = some (.int .i64 a1_0) := (kQC BK567.out 0).trans rfl; have hcz20_1 : w17.cell? ⟨gb567, 1, none⟩ = some (.slice A1_1 l1_1.length c1_1) := (kQC BK567.out 1).trans rfl; have hfz20_0 := kQF BK567.out 0; have hfz20_1 := kQF BK567.out 1))
  go_ret
  exact ⟨tE, tB⟩
 rw [if_pos c3] at H
 have c3b0 := beq_iff_eq.mpr c3
 have c3b1 := bne_eq_false_iff_eq.mpr c3
 clear c3
 obtain ⟨t568, A4, H⟩ := qBd H
 by_cases c5 : t568 = true
 ·subst c5
  rw [if_pos rfl] at H
  obtain rfl := Option.some.inj H
  go_enter Try.func26, Try.ntmps26
  go_wp2_with (first | ((with_reducible refine gQd (N := 2) rfl ?_); refine xQe ?hg (N := 2) ?hd (cs := #[.int .i64 a0_0, .slice A0_1 l0_1.length c0_1]) (t := 41) ?hr ?_; (case hd => rfl); (case hg => rfl); (case hr => exact tH); intro gb566 hg w6 hbox hb; refine qM4 (bQT tB hb) hbox (tZ w hg) (tZ w hg) ?_; clear HB; intro HB BK566 GW566 GE566; clear hb hbox hg) | ((with_reducible refine gQd (N := 3) rfl ?_); refine xQe ?hg (N := 3) ?hd (cs := #[.int .i64 a1_0, .slice A1_1 l1_1.length c1_1]) (t := 41) ?hr ?_; (case hd => rfl); (case hg => rfl); (case hr => exact tH); intro gb567 hg w7 hbox hb; refine qM7 (tQ BK566.out hb) (bQT tB hb) hbox (tZ w hg) (tZ w hg) ((by rw [hg]; exact Nat.ne_of_lt (blk_lt (g := gb566) (o := .cells #[.int .i64 a0_0, .slice A0_1 l0_1.length c0_1] 41 (0, 0)) (tG BK566.out)) : gb566 ≠ gb567)) ((by rw [hg]; exact Nat.ne_of_gt (blk_lt (g := gb566) (o := .cells #[.int .i64 a0_0, .slice A0_1 l0_1.length c0_1] 41 (0, 0)) (tG BK566.out)) : gb567 ≠ gb566)) ?_; clear BK566 HB; intro BK566 HB BK567 GW567 GE567 NB566_567 NB567_566; clear hb hbox hg; have hnb8 := NB566_567.out; have hnc8 := NB567_566.out; have hcz9_0 : w7.cell? ⟨gb566, 0, none⟩ = some (.int .i64 a0_0) := (kQC BK566.out 0).trans rfl; have hcz9_1 : w7.cell? ⟨gb566, 1, none⟩ = some (.slice A0_1 l0_1.length c0_1) := (kQC BK566.out 1).trans rfl; have hfz9_0 := kQF BK566.out 0; have hfz9_1 := kQF BK566.out 1; have hcz10_0 : w7.cell? ⟨gb567, 0, none⟩ = some (.int .i64 a1_0) := (kQC BK567.out 0).trans rfl; have hcz10_1 : w7.cell? ⟨gb567, 1, none⟩ = some (.slice A1_1 l1_1.length c1_1) := (kQC BK567.out 1).trans rfl; have hfz10_0 := kQF BK567.out 0; have hfz10_1 := kQF BK567.out 1) | ((with_reducible refine gQc (f := 14) rfl ?_); refine goesL_ (some 14) rfl rfl Try.func14 (by kernel_rfl) rfl #[.slice A0_1 l0_1.length c0_1, .slice A1_1 l1_1.length c1_1] rfl tL ?_; (with_reducible refine (laws_eqInt64S.calls k _ _ l0_1 _ _ l1_1 true _ ?s1 ?s2 ?s3 ?s4 A4.out).mono ?_); (case s1 => exact tC ((Kd.C_below HR0_1.out HB.out))); (case s2 => exact HC0_1.out); (case s3 => exact tC ((Kd.C_below HR1_1.out HB.out))); (case s4 => exact HC1_1.out); rintro e w' ⟨rfl, ⟨nd, rfl⟩⟩; refine ⟨_, rfl, ?_⟩))
  go_ret
  exact ⟨tE, tB⟩
 replace c5 := Bool.eq_false_iff.mpr c5
 subst c5
 rw [if_neg (show ¬ (false = true) by decide)] at H
 obtain rfl := Option.some.inj H
 go_enter Try.func26, Try.ntmps26
 go_wp2_with (first | ((with_reducible refine gQd (N := 2) rfl ?_); refine xQe ?hg (N := 2) ?hd (cs := #[.int .i64 a0_0, .slice A0_1 l0_1.length c0_1]) (t := 41) ?hr ?_; (case hd => rfl); (case hg => rfl); (case hr => exact tH); intro gb566 hg w11 hbox hb; refine qM4 (bQT tB hb) hbox (tZ w hg) (tZ w hg) ?_; clear HB; intro HB BK566 GW566 GE566; clear hb hbox hg) | ((with_reducible refine gQd (N := 3) rfl ?_); refine xQe ?hg (N := 3) ?hd (cs := #[.int .i64 a1_0, .slice A1_1 l1_1.length c1_1]) (t := 41) ?hr ?_; (case hd => rfl); (case hg => rfl); (case hr => exact tH); intro gb567 hg w12 hbox hb; refine qM7 (tQ BK566.out hb) (bQT tB hb) hbox (tZ w hg) (tZ w hg) ((by rw [hg]; exact Nat.ne_of_lt (blk_lt (g := gb566) (o := .cells #[.int .i64 a0_0, .slice A0_1 l0_1.length c0_1] 41 (0, 0)) (tG BK566.out)) : gb566 ≠ gb567)) ((by rw [hg]; exact Nat.ne_of_gt (blk_lt (g := gb566) (o := .cells #[.int .i64 a0_0, .slice A0_1 l0_1.length c0_1] 41 (0, 0)) (tG BK566.out)) : gb567 ≠ gb566)) ?_; clear BK566 HB; intro BK566 HB BK567 GW567 GE567 NB566_567 NB567_566; clear hb hbox hg; have hnb13 := NB566_567.out; have hnc13 := NB567_566.out; have hcz14_0 : w12.cell? ⟨gb566, 0, none⟩ = some (.int .i64 a0_0) := (kQC BK566.out 0).trans rfl; have hcz14_1 : w12.cell? ⟨gb566, 1, none⟩ = some (.slice A0_1 l0_1.length c0_1) := (kQC BK566.out 1).trans rfl; have hfz14_0 := kQF BK566.out 0; have hfz14_1 := kQF BK566.out 1; have hcz15_0 : w12.cell? ⟨gb567, 0, none⟩ = some (.int .i64 a1_0) := (kQC BK567.out 0).trans rfl; have hcz15_1 : w12.cell? ⟨gb567, 1, none⟩ = some (.slice A1_1 l1_1.length c1_1) := (kQC BK567.out 1).trans rfl; have hfz15_0 := kQF BK567.out 0; have hfz15_1 := kQF BK567.out 1) | ((with_reducible refine gQc (f := 14) rfl ?_); refine goesL_ (some 14) rfl rfl Try.func14 (by kernel_rfl) rfl #[.slice A0_1 l0_1.length c0_1, .slice A1_1 l1_1.length c1_1] rfl tL ?_; (with_reducible refine (laws_eqInt64S.calls k _ _ l0_1 _ _ l1_1 false _ ?s1 ?s2 ?s3 ?s4 A4.out).mono ?_); (case s1 => exact tC ((Kd.C_below HR0_1.out HB.out))); (case s2 => exact HC0_1.out); (case s3 => exact tC ((Kd.C_below HR1_1.out HB.out))); (case s4 => exact HC1_1.out); rintro e w' ⟨rfl, ⟨nd, rfl⟩⟩; refine ⟨_, rfl, ?_⟩))
 go_ret
 exact ⟨tE, tB⟩
def laws_markMatrix.f (k : Nat) (a0_0 : Int) (l0_1 : List Int) (a1 : Int) : Option (Int × List Int) := (laws_markInt64S.f k l0_1 a1).bind fun bt570 => (some (bt570.1, bt570.2))
theorem laws_markMatrix.mono : ∀ a0 a1 a2 k, LeO (laws_markMatrix.f k a0 a1 a2) (laws_markMatrix.f (k + 1) a0 a1 a2) := by
 intro a0 a1 a2 k
 unfold laws_markMatrix.f
 repeat' first
  | (with_reducible first | apply laws_markInt64S.mono | exact LeO.refl _ | exact LeO.none _ | refine LeO.ite ?_ ?_ | refine LeO.bind ?_ (fun _ => ?_))
  | exact LeO.none _
  | refine LeO.ite ?_ ?_
  | refine LeO.bind ?_ (fun _ => ?_)
theorem laws_markMatrix.calls (k : Nat) (a0_0 : Int) (P0_1_ : Nat → Prop) (u9000_ : Value) (l0_1 : List Int) (a1 : Int) (r1 : Int) (r2 : List Int) (w0 w : World) (hB : Below w0.heap.size w0 w) (ho0_1 : Kd.R (Kd.int .i64) 2 w w0.heap.size P0_1_ u9000_ l0_1) (h : laws_markMatrix.f k a0_0 l0_1 a1 = some (r1, r2)) :
 Calls Try.prog 27 #[.agg #[.int .i64 a0_0, u9000_], .int .i64 a1] w fun e w' => e = .returned (.int .i64 r1) ∧ Kd.R (Kd.int .i64) 2 w' w0.heap.size (fun k_ => (P0_1_ k_ ∨ w.heap.size ≤ k_)) u9000_ r2 ∧ Below w0.heap.size w0 w' ∧ Kept w w' (fun k_ => P0_1_ k_) := by
 have hu41 := Try.underlying41
 have HO0_1 := Aq.mk (show Kd.R (Kd.int .i64) 2 w w0.heap.size (fun k_ => (P0_1_ k_ ∨ w.heap.size ≤ k_)) u9000_ l0_1 from Kd.R_mono ho0_1 (fun k_ hk => (.inl hk)))
 have HK := Aq.mk (Kept.refl w (fun k_ => P0_1_ k_))
 have HW0 := Aq.mk hB.size
 have HB := Aq.mk hB
 clear hB
 have H : ((laws_markInt64S.f k l0_1 a1).bind fun bt570 => (some (bt570.1, bt570.2))) = some (r1, r2) := h
 clear h
 obtain ⟨⟨t570, t571⟩, A3, H⟩ := qBd H
 (try dsimp only at H)
 simp only [Option.some.injEq, Prod.mk.injEq] at H
 obtain ⟨rfl, rfl⟩ := H
 obtain ⟨Ao4, co4, eo4⟩ := Kd.R_slice HO0_1.out
 subst eo4
 go_enter Try.func27, Try.ntmps27
 go_wp2_with (first | ((with_reducible refine gQd (N := 2) rfl ?_); refine xQe ?hg (N := 2) ?hd (cs := #[.int .i64 a0_0, .slice Ao4 l0_1.length co4]) (t := 41) ?hr ?_; (case hd => rfl); (case hg => rfl); (case hr => exact tH); intro gb569 hg w5 hbox hb; refine qM6 (Kd.R_below (tR HO0_1.out) hb) (Kept.below (S := (fun k_ => P0_1_ k_)) (by repeat (first | (with_reducible first | exact HK.out | apply Kept.alloc | apply Kept.drewN | apply Kept.drew) | exact HK.out)) hb) (bQT tB hb) hbox ((by rw [hg]; exact (by first | exact HK.out.1 | exact (show Kept w _ (fun k_ => P0_1_ k_) from by repeat (first | (with_reducible first | exact HK.out | apply Kept.alloc | apply Kept.drewN | apply Kept.drew) | exact HK.out)).1) : w.heap.size ≤ gb569)) (tZ w0 hg) ?_; clear HO0_1 HK HB; intro HO0_1 HK HB BK569 GW569 GE569; clear hb hbox hg; have hcz6_0 : w5.cell? ⟨gb569, 0, none⟩ = some (.int .i64 a0_0) := (kQC BK569.out 0).trans rfl; have hcz6_1 : w5.cell? ⟨gb569, 1, none⟩ = some (.slice Ao4 l0_1.length co4) := (kQC BK569.out 1).trans rfl; have hfz6_0 := kQF BK569.out 0; have hfz6_1 := kQF BK569.out 1) | ((with_reducible refine gQc (f := 15) rfl ?_); refine goesL_ (some 8) rfl rfl Try.func15 (by kernel_rfl) rfl #[.slice Ao4 l0_1.length co4, .int .i64 a1] rfl tL ?_; (with_reducible refine (laws_markInt64S.calls k (fun k_ => some k_ = (.slice Ao4 l0_1.length co4 : Value).ownBlock) (.slice Ao4 l0_1.length co4) l0_1 a1 t570 t571 w0 _ ?s1 ?s2 A3.out).mono ?_); (case s1 => exact tB); (case s2 => exact Kd.R_tight rfl HO0_1.out); rintro e w7 ⟨rfl, hy0, hb, hkp⟩; refine ⟨_, rfl, ?_⟩; refine qM4 (Kd.R_reok rfl hy0 (fun k_ e_ => HO0_1.out.1 k_ e_)) (blk_kept (tG BK569.out) hkp (fun hs_ => (fun e_ => (Kd.R_ne HO0_1.out BK569.out (by decide)) e_) hs_)) (Kept.then_ (S := (fun k_ => P0_1_ k_)) (by repeat (first | (with_reducible first | exact HK.out | apply Kept.alloc | apply Kept.drewN | apply Kept.drew | refine Kept.setCell ?_ (.inr GW569.out) _) | exact HK.out)) hkp (fun k_ hs_ => (fun e_ => (HO0_1.out.1 k_ e_.symm)) hs_)) hb ?_; clear HO0_1 BK569 HK HB; intro HO0_1 BK569 HK HB; (try clear hb); (try clear hkp); (try clear hy0)))
 go_ret
 exact ⟨tE, tR HO0_1.out, tB, by repeat (first | (with_reducible first | exact HK.out | apply Kept.alloc | apply Kept.drewN | apply Kept.drew | refine Kept.setCell ?_ (.inr GW569.out) _) | exact HK.out)⟩
def laws_heldMatrix.f (k : Nat) (a0_0 : Int) (l0_1 : List Int) (a1 : Int) : Option (Int) := (laws_heldInt64S.f k l0_1 a1).bind fun t573 => (if t573 < 0 then (some (-1)) else (some t573))
theorem laws_heldMatrix.mono : ∀ a0 a1 a2 k, LeO (laws_heldMatrix.f k a0 a1 a2) (laws_heldMatrix.f (k + 1) a0 a1 a2) := by
 intro a0 a1 a2 k
 unfold laws_heldMatrix.f
 repeat' first
  | (with_reducible first | apply laws_heldInt64S.mono | exact LeO.refl _ | exact LeO.none _ | refine LeO.ite ?_ ?_ | refine LeO.bind ?_ (fun _ => ?_))
  | exact LeO.none _
  | refine LeO.ite ?_ ?_
  | refine LeO.bind ?_ (fun _ => ?_)
theorem laws_heldMatrix.calls (k : Nat) (a0_0 : Int) (A0_1 : Option Addr) (c0_1 : Nat) (l0_1 : List Int) (a1 : Int) (r : Int) (w : World) (hr0_1 : Kd.C (Kd.int .i64) w A0_1 l0_1.length l0_1) (hc0_1 : l0_1.length ≤ c0_1) (h : laws_heldMatrix.f k a0_0 l0_1 a1 = some r) :
 Calls Try.prog 28 #[.agg #[.int .i64 a0_0, .slice A0_1 l0_1.length c0_1], .int .i64 a1] w fun e w' => e = .returned (.int .i64 r) ∧ Below w.heap.size w w' := by
 have hu41 := Try.underlying41
 have HR0_1 := Aq.mk hr0_1
 have HC0_1 := Aq.mk hc0_1
 clear hr0_1 hc0_1
 have HB := Aq.mk (Below.refl w.heap.size w)
 have H : ((laws_heldInt64S.f k l0_1 a1).bind fun t573 => (if t573 < 0 then (some (-1)) else (some t573))) = some r := h
 clear h
 obtain ⟨t573, A3, H⟩ := qBd H
 by_cases c4 : t573 < 0
 ·rw [if_pos c4] at H
  have c4b0 := decide_eq_true c4
  clear c4
  obtain rfl := Option.some.inj H
  go_enter Try.func28, Try.ntmps28
  go_wp2_with (first | ((with_reducible refine gQd (N := 2) rfl ?_); refine xQe ?hg (N := 2) ?hd (cs := #[.int .i64 a0_0, .slice A0_1 l0_1.length c0_1]) (t := 41) ?hr ?_; (case hd => rfl); (case hg => rfl); (case hr => exact tH); intro gb572 hg w5 hbox hb; refine qM4 (bQT tB hb) hbox (tZ w hg) (tZ w hg) ?_; clear HB; intro HB BK572 GW572 GE572; clear hb hbox hg; have hcz6_0 : w5.cell? ⟨gb572, 0, none⟩ = some (.int .i64 a0_0) := (kQC BK572.out 0).trans rfl; have hcz6_1 : w5.cell? ⟨gb572, 1, none⟩ = some (.slice A0_1 l0_1.length c0_1) := (kQC BK572.out 1).trans rfl; have hfz6_0 := kQF BK572.out 0; have hfz6_1 := kQF BK572.out 1) | ((with_reducible refine gQc (f := 16) rfl ?_); refine goesL_ (some 8) rfl rfl Try.func16 (by kernel_rfl) rfl #[.slice A0_1 l0_1.length c0_1, .int .i64 a1] rfl tL ?_; (with_reducible refine (laws_heldInt64S.calls k _ _ l0_1 a1 t573 _ ?s1 ?s2 A3.out).mono ?_); (case s1 => exact tC ((Kd.C_below HR0_1.out HB.out))); (case s2 => exact HC0_1.out); rintro e w' ⟨rfl, ⟨nd, rfl⟩⟩; refine ⟨_, rfl, ?_⟩))
  go_ret
  exact ⟨tE, tB⟩
 rw [if_neg c4] at H
 have c4b0 := decide_eq_false c4
 clear c4
 obtain rfl := Option.some.inj H
 go_enter Try.func28, Try.ntmps28
 go_wp2_with (first | ((with_reducible refine gQd (N := 2) rfl ?_); refine xQe ?hg (N := 2) ?hd (cs := #[.int .i64 a0_0, .slice A0_1 l0_1.length c0_1]) (t := 41) ?hr ?_; (case hd => rfl); (case hg => rfl); (case hr => exact tH); intro gb572 hg w7 hbox hb; refine qM4 (bQT tB hb) hbox (tZ w hg) (tZ w hg) ?_; clear HB; intro HB BK572 GW572 GE572; clear hb hbox hg; have hcz8_0 : w7.cell? ⟨gb572, 0, none⟩ = some (.int .i64 a0_0) := (kQC BK572.out 0).trans rfl; have hcz8_1 : w7.cell? ⟨gb572, 1, none⟩ = some (.slice A0_1 l0_1.length c0_1) := (kQC BK572.out 1).trans rfl; have hfz8_0 := kQF BK572.out 0; have hfz8_1 := kQF BK572.out 1) | ((with_reducible refine gQc (f := 16) rfl ?_); refine goesL_ (some 8) rfl rfl Try.func16 (by kernel_rfl) rfl #[.slice A0_1 l0_1.length c0_1, .int .i64 a1] rfl tL ?_; (with_reducible refine (laws_heldInt64S.calls k _ _ l0_1 a1 t573 _ ?s1 ?s2 A3.out).mono ?_); (case s1 => exact tC ((Kd.C_below HR0_1.out HB.out))); (case s2 => exact HC0_1.out); rintro e w' ⟨rfl, ⟨nd, rfl⟩⟩; refine ⟨_, rfl, ?_⟩))
 go_ret
 exact ⟨tE, tB⟩
end Go.Proofs.Ytbgbblgdbcjibaa.P
