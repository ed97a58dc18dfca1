/- Functions of the program and what they tell, as the printing program wrote it. -/
import Derived.Test.YtbalkaphibnpcaaPx0
import Derived.Test.YtbalkaphibnpcaaPx9
import Derived.Test.YtbalkaphibnpcaaPx11
import Derived.Test.YtbalkaphibnpcaaPx16
namespace Go.Proofs.Ytbalkaphibnpcaa.P
open Go.Shelf Go.RowKit Go.Proofs.YtbalkaphibnpcaaW.PrintWords Go.Proofs.YtbalkaphibnpcaaW.PrintLast Go.Proofs.YtbalkaphibnpcaaW.PrintMore
attribute [local go_sem] max2_int min2_int max_two min_two max_three min_three max_four min_four
set_option linter.unusedVariables false
set_option linter.unusedSimpArgs false
set_option maxHeartbeats 8000000
set_option maxRecDepth 100000
def spec_FieldRank.f (k : Nat) (a0_0 : Int) (a0_1 : Int) (a1 : Int) (l2 : List (List Int)) : Option (Int × Int) := (spec_l04Rows.f k a0_0 a0_1 a1 l2).bind fun t187 => (if t187 = 0 then ((spec_l04Echelon.f k a0_0 a0_1 a1 l2).bind fun t188 => (some ((t188.length : Int), 0))) else (some (0, t187)))
theorem spec_FieldRank.mono : ∀ a0 a1 a2 a3 k, LeO (spec_FieldRank.f k a0 a1 a2 a3) (spec_FieldRank.f (k + 1) a0 a1 a2 a3) := by
 intro a0 a1 a2 a3 k
 unfold spec_FieldRank.f
 repeat' first
  | (with_reducible first | apply spec_l04Echelon.mono | apply spec_l04Rows.mono | exact LeO.refl _ | exact LeO.none _ | refine LeO.ite ?_ ?_ | refine LeO.bind ?_ (fun _ => ?_))
  | exact LeO.none _
  | refine LeO.ite ?_ ?_
  | refine LeO.bind ?_ (fun _ => ?_)
theorem spec_FieldRank.calls (k : Nat) (a0_0 : Int) (a0_1 : Int) (a1 : Int) (A2 : Option Addr) (c2 : Nat) (l2 : List (List Int)) (r1 : Int) (r2 : Int) (w : World) (hr2 : Kd.C (Kd.slice 2 (Kd.int .i64)) w A2 l2.length l2) (hc2 : l2.length ≤ c2) (h : spec_FieldRank.f k a0_0 a0_1 a1 l2 = some (r1, r2)) :
 Calls Try.prog 9 #[.agg #[.int .i64 a0_0, .int .i64 a0_1], .int .i64 a1, .slice A2 l2.length c2] w fun e w' => e = .returned (.tuple #[.int .i64 r1, .int .i64 r2]) ∧ Below w.heap.size w w' := by
 have hu28 := Try.underlying28
 have HR2 := Aq.mk hr2
 have HC2 := Aq.mk hc2
 clear hr2 hc2
 have HB := Aq.mk (Below.refl w.heap.size w)
 have H : ((spec_l04Rows.f k a0_0 a0_1 a1 l2).bind fun t187 => (if t187 = 0 then ((spec_l04Echelon.f k a0_0 a0_1 a1 l2).bind fun t188 => (some ((t188.length : Int), 0))) else (some (0, t187)))) = some (r1, r2) := h
 clear h
 obtain ⟨t187, A4, H⟩ := qBd H
 by_cases c5 : t187 = 0
 rotate_left
 ·rw [if_neg c5] at H
  have c5b0 := beq_eq_false_iff_ne.mpr c5
  have c5b1 := bne_iff_ne.mpr c5
  simp only [Option.some.injEq, Prod.mk.injEq] at H
  obtain ⟨rfl, rfl⟩ := H
  go_enter Try.func9, Try.ntmps9
  go_wp2_with (first | ((with_reducible refine gQd (N := 3) rfl ?_); refine xQe ?hg (N := 3) ?hd (cs := #[.int .i64 a0_0, .int .i64 a0_1]) (t := 28) ?hr ?_; (case hd => rfl); (case hg => rfl); (case hr => exact tH); intro gb186 hg w13 hbox hb; refine qM4 (bQT tB hb) hbox (tZ w hg) (tZ w hg) ?_; clear HB; intro HB BK186 GW186 GE186; clear hb hbox hg; have hcz14_0 : w13.cell? ⟨gb186, 0, none⟩ = some (.int .i64 a0_0) := (kQC BK186.out 0).trans rfl; have hcz14_1 : w13.cell? ⟨gb186, 1, none⟩ = some (.int .i64 a0_1) := (kQC BK186.out 1).trans rfl; have hfz14_0 := kQF BK186.out 0; have hfz14_1 := kQF BK186.out 1) | ((with_reducible refine gQc (f := 41) rfl ?_); refine goesL_ (some 12) rfl rfl Try.func41 (by kernel_rfl) rfl #[.agg #[.int .i64 a0_0, .int .i64 a0_1], .int .i64 a1, .slice A2 l2.length c2] rfl tL ?_; (with_reducible refine (spec_l04Rows.calls k a0_0 a0_1 a1 _ _ l2 t187 _ ?s1 ?s2 A4.out).mono ?_); (case s1 => exact tC ((Kd.C_below HR2.out HB.out))); (case s2 => exact HC2.out); rintro e w15 ⟨rfl, hb⟩; refine ⟨_, rfl, ?_⟩; refine qM2 (tQ BK186.out hb) (bQT tB hb) ?_; clear BK186 HB; intro BK186 HB; (try clear hb); (try clear hb2); (try clear hk); (try clear hi)))
  go_ret2
  exact ⟨tE, tB⟩
 rw [if_pos c5] at H
 have c5b0 := beq_iff_eq.mpr c5
 have c5b1 := bne_eq_false_iff_eq.mpr c5
 clear c5
 obtain ⟨t188, A6, H⟩ := qBd H
 simp only [Option.some.injEq, Prod.mk.injEq] at H
 obtain ⟨rfl, rfl⟩ := H
 go_enter Try.func9, Try.ntmps9
 go_wp2_with (first | ((with_reducible refine gQd (N := 3) rfl ?_); refine xQe ?hg (N := 3) ?hd (cs := #[.int .i64 a0_0, .int .i64 a0_1]) (t := 28) ?hr ?_; (case hd => rfl); (case hg => rfl); (case hr => exact tH); intro gb186 hg w7 hbox hb; refine qM4 (bQT tB hb) hbox (tZ w hg) (tZ w hg) ?_; clear HB; intro HB BK186 GW186 GE186; clear hb hbox hg; have hcz8_0 : w7.cell? ⟨gb186, 0, none⟩ = some (.int .i64 a0_0) := (kQC BK186.out 0).trans rfl; have hcz8_1 : w7.cell? ⟨gb186, 1, none⟩ = some (.int .i64 a0_1) := (kQC BK186.out 1).trans rfl; have hfz8_0 := kQF BK186.out 0; have hfz8_1 := kQF BK186.out 1) | ((with_reducible refine gQc (f := 41) rfl ?_); refine goesL_ (some 12) rfl rfl Try.func41 (by kernel_rfl) rfl #[.agg #[.int .i64 a0_0, .int .i64 a0_1], .int .i64 a1, .slice A2 l2.length c2] rfl tL ?_; (with_reducible refine (spec_l04Rows.calls k a0_0 a0_1 a1 _ _ l2 t187 _ ?s1 ?s2 A4.out).mono ?_); (case s1 => exact tC ((Kd.C_below HR2.out HB.out))); (case s2 => exact HC2.out); rintro e w9 ⟨rfl, hb⟩; refine ⟨_, rfl, ?_⟩; refine qM2 (tQ BK186.out hb) (bQT tB hb) ?_; clear BK186 HB; intro BK186 HB; (try clear hb); (try clear hb2); (try clear hk); (try clear hi); have hcz10_0 : w9.cell? ⟨gb186, 0, none⟩ = some (.int .i64 a0_0) := (kQC BK186.out 0).trans rfl; have hcz10_1 : w9.cell? ⟨gb186, 1, none⟩ = some (.int .i64 a0_1) := (kQC BK186.out 1).trans rfl; have hfz10_0 := kQF BK186.out 0; have hfz10_1 := kQF BK186.out 1) | ((with_reducible refine gQc (f := 42) rfl ?_); refine goesL_ (some 19) rfl rfl Try.func42 (by kernel_rfl) rfl #[.agg #[.int .i64 a0_0, .int .i64 a0_1], .int .i64 a1, .slice A2 l2.length c2] rfl tL ?_; (with_reducible refine (spec_l04Echelon.calls k a0_0 a0_1 a1 _ _ l2 t188 _ ?s1 ?s2 A6.out).mono ?_); (case s1 => exact tC ((Kd.C_below HR2.out HB.out))); (case s2 => exact HC2.out); rintro e w11 ⟨v189, rfl, ho0, hb⟩; refine ⟨_, rfl, ?_⟩; refine qM3 (Kd.N_lower (Kd.N_mono (ok' := fun k_ => k_ ≠ gb186) ho0 (fun k_ hk_ => (Kd.freshB (g := gb186) (o := .cells #[.int .i64 a0_0, .int .i64 a0_1] 28 (0, 0)) (tG BK186.out) k_ hk_))) (bQZ tB)) (tQ BK186.out hb) (bQT tB hb) ?_; clear BK186 HB; intro HO190 BK186 HB; (try clear hb); (try clear hb2); (try clear hk); (try clear hi); (try clear ho0); obtain ⟨Ao12, co12, eo12⟩ := Kd.N_slice HO190.out; subst eo12))
 go_ret2
 exact ⟨tE, tB⟩
def impl_size_int64_44.f (l0 : List (List Int)) : Option (Int) := some (l0.length : Int)
theorem impl_size_int64_44.calls (A0 : Option Addr) (c0 : Nat) (l0 : List (List Int)) (r : Int) (w : World) (hr0 : Kd.C (Kd.slice 2 (Kd.int .i64)) w A0 l0.length l0) (hc0 : l0.length ≤ c0) (h : impl_size_int64_44.f l0 = some r) :
 Calls Try.prog 44 #[.slice A0 l0.length c0] w fun e w' => e = .returned (.int .i64 r) ∧ Dq w w' := by
 have HR0 := Aq.mk hr0
 have HC0 := Aq.mk hc0
 clear hr0 hc0
 have H : (some (l0.length : Int)) = some r := h
 clear h
 obtain rfl := Option.some.inj H
 go_enter Try.func44, Try.ntmps44
 go_wp2
 go_ret
 exact ⟨tS, tD⟩
def impl_FieldRank.f (k : Nat) (a0_0 : Int) (a0_1 : Int) (a1 : Int) (l2 : List (List Int)) : Option (Int × Int) := (impl_FieldEchelon.f k a0_0 a0_1 a1 l2).bind fun bt278 => ((impl_size_int64_44.f bt278.1).bind fun t282 => (some (t282, bt278.2)))
theorem impl_FieldRank.mono : ∀ a0 a1 a2 a3 k, LeO (impl_FieldRank.f k a0 a1 a2 a3) (impl_FieldRank.f (k + 1) a0 a1 a2 a3) := by
 intro a0 a1 a2 a3 k
 unfold impl_FieldRank.f
 repeat' first
  | (with_reducible first | apply impl_FieldEchelon.mono | exact LeO.refl _ | exact LeO.none _ | refine LeO.ite ?_ ?_ | refine LeO.bind ?_ (fun _ => ?_))
  | exact LeO.none _
  | refine LeO.ite ?_ ?_
  | refine LeO.bind ?_ (fun _ => ?_)
theorem impl_FieldRank.calls (k : Nat) (a0_0 : Int) (a0_1 : Int) (a1 : Int) (A2 : Option Addr) (c2 : Nat) (l2 : List (List Int)) (r1 : Int) (r2 : Int) (w : World) (hr2 : Kd.C (Kd.slice 2 (Kd.int .i64)) w A2 l2.length l2) (hc2 : l2.length ≤ c2) (h : impl_FieldRank.f k a0_0 a0_1 a1 l2 = some (r1, r2)) :
 Calls Try.prog 12 #[.agg #[.int .i64 a0_0, .int .i64 a0_1], .int .i64 a1, .slice A2 l2.length c2] w fun e w' => e = .returned (.tuple #[.int .i64 r1, .int .i64 r2]) ∧ Below w.heap.size w w' := by
 have hu28 := Try.underlying28
 have HR2 := Aq.mk hr2
 have HC2 := Aq.mk hc2
 clear hr2 hc2
 have HB := Aq.mk (Below.refl w.heap.size w)
 have H : ((impl_FieldEchelon.f k a0_0 a0_1 a1 l2).bind fun bt278 => ((impl_size_int64_44.f bt278.1).bind fun t282 => (some (t282, bt278.2)))) = some (r1, r2) := h
 clear h
 obtain ⟨⟨t278, t281⟩, A4, H⟩ := qBd H
 (try dsimp only at H)
 obtain ⟨t282, A5, H⟩ := qBd H
 simp only [Option.some.injEq, Prod.mk.injEq] at H
 obtain ⟨rfl, rfl⟩ := H
 go_enter Try.func12, Try.ntmps12
 go_wp2_with (first | ((with_reducible refine gQd (N := 3) rfl ?_); refine xQe ?hg (N := 3) ?hd (cs := #[.int .i64 a0_0, .int .i64 a0_1]) (t := 28) ?hr ?_; (case hd => rfl); (case hg => rfl); (case hr => exact tH); intro gb277 hg w6 hbox hb; refine qM4 (bQT tB hb) hbox (tZ w hg) (tZ w hg) ?_; clear HB; intro HB BK277 GW277 GE277; clear hb hbox hg; have hcz7_0 : w6.cell? ⟨gb277, 0, none⟩ = some (.int .i64 a0_0) := (kQC BK277.out 0).trans rfl; have hcz7_1 : w6.cell? ⟨gb277, 1, none⟩ = some (.int .i64 a0_1) := (kQC BK277.out 1).trans rfl; have hfz7_0 := kQF BK277.out 0; have hfz7_1 := kQF BK277.out 1) | ((with_reducible refine gQc (f := 15) rfl ?_); refine goesL_ (some 14) rfl rfl Try.func15 (by kernel_rfl) rfl #[.agg #[.int .i64 a0_0, .int .i64 a0_1], .int .i64 a1, .slice A2 l2.length c2] rfl tL ?_; (with_reducible refine (impl_FieldEchelon.calls k a0_0 a0_1 a1 _ _ l2 t278 t281 _ ?s1 ?s2 A4.out).mono ?_); (case s1 => exact tC ((Kd.C_below HR2.out HB.out))); (case s2 => exact HC2.out); rintro e w8 ⟨v279, rfl, ho0, hb⟩; refine ⟨_, rfl, ?_⟩; refine qM3 (Kd.S_lower ho0 (bQZ tB)) (tQ BK277.out hb) (bQT tB hb) ?_; clear BK277 HB; intro HO280 BK277 HB; (try clear hb); (try clear hb2); (try clear hk); (try clear hi); (try clear ho0); obtain ⟨Ao9, co9, eo9⟩ := Kd.S_slice HO280.out; subst eo9) | ((with_reducible refine gQc (f := 44) rfl ?_); refine goesL_ (some 18) rfl rfl Try.func44 (by kernel_rfl) rfl #[.slice Ao9 t278.length co9] rfl tL ?_; (with_reducible refine (impl_size_int64_44.calls _ _ t278 t282 _ ?s1 ?s2 A5.out).mono ?_); (case s1 => exact tC ((Kd.S_reads' HO280.out).2.2)); (case s2 => exact (Kd.S_reads' HO280.out).2.1); rintro e w' ⟨rfl, ⟨nd, rfl⟩⟩; refine ⟨_, rfl, ?_⟩))
 go_ret2
 exact ⟨tE, tB⟩
end Go.Proofs.Ytbalkaphibnpcaa.P
