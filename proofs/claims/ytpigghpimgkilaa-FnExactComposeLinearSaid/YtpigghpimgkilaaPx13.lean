/- Functions of the program and what they tell, as the printing program wrote it. -/
import Derived.Test.YtpigghpimgkilaaPx0
import Derived.Test.YtpigghpimgkilaaPx6
import Derived.Test.YtpigghpimgkilaaPx7
import Derived.Test.YtpigghpimgkilaaPx8
import Derived.Test.YtpigghpimgkilaaPx9
namespace Go.Proofs.Ytpigghpimgkilaa.P
open Go.Shelf Go.RowKit Go.Proofs.YtpigghpimgkilaaW.PrintWords Go.Proofs.YtpigghpimgkilaaW.PrintLast Go.Proofs.YtpigghpimgkilaaW.PrintMore
attribute [local go_sem] max2_int min2_int max_two min_two max_three min_three max_four min_four
set_option linter.unusedVariables false
set_option linter.unusedSimpArgs false
set_option maxHeartbeats 8000000
set_option maxRecDepth 100000
def spec_ComposeLinear.j0 : Nat → List Int → List Int → Bool → Int → Int → Option (List Int × Int)
  | 0, _, _, _, _, _ => none
  | k + 1, x1, x2, x18, x307000, x307001 => if x18 = true then (some ((([] : List Int)), 1)) else ((spec_l03Compose.f k x307000 x307001 x1 x2).bind fun t312 => (if (t312.length : Int) > 12 then (some ((([] : List Int)), 3)) else (some (t312, 0))))
def spec_ComposeLinear.f (k : Nat) (a0_0 : Int) (a0_1 : Int) (l1 : List Int) (l2 : List Int) : Option (List Int × Int) := (spec_ValidLinear.f k a0_0 a0_1 l1).bind fun t307 => (if t307 = true then ((spec_ValidLinear.f k a0_0 a0_1 l2).bind fun t308 => (spec_ComposeLinear.j0 k l1 l2 (!t308) a0_0 a0_1)) else (spec_ComposeLinear.j0 k l1 l2 true a0_0 a0_1))
theorem spec_ComposeLinear.mono_l : ∀ k, (∀ y0 y1 y2 y3 y4, LeO (spec_ComposeLinear.j0 k y0 y1 y2 y3 y4) (spec_ComposeLinear.j0 (k + 1) y0 y1 y2 y3 y4))
 | 0 => fun _ _ _ _ _ r h => by simp [spec_ComposeLinear.j0] at h
 | k + 1 => by
  have ih0 := spec_ComposeLinear.mono_l k
  ·intro y0 y1 y2 y3 y4
   unfold spec_ComposeLinear.j0
   repeat' first
   | (with_reducible first | apply ih0 | apply spec_ValidLinear.mono | apply spec_l03Compose.mono | exact LeO.refl _ | exact LeO.none _ | refine LeO.ite ?_ ?_ | refine LeO.bind ?_ (fun _ => ?_))
   | exact LeO.none _
   | refine LeO.ite ?_ ?_
   | refine LeO.bind ?_ (fun _ => ?_)
theorem spec_ComposeLinear.mono : ∀ a0 a1 a2 a3 k, LeO (spec_ComposeLinear.f k a0 a1 a2 a3) (spec_ComposeLinear.f (k + 1) a0 a1 a2 a3) := by
 intro a0 a1 a2 a3 k
 have ih0 := spec_ComposeLinear.mono_l k
 unfold spec_ComposeLinear.f
 repeat' first
  | (with_reducible first | apply ih0 | apply spec_ValidLinear.mono | apply spec_l03Compose.mono | exact LeO.refl _ | exact LeO.none _ | refine LeO.ite ?_ ?_ | refine LeO.bind ?_ (fun _ => ?_))
  | exact LeO.none _
  | refine LeO.ite ?_ ?_
  | refine LeO.bind ?_ (fun _ => ?_)
theorem spec_ComposeLinear.calls (k : Nat) (a0_0 : Int) (a0_1 : Int) (A1 : Option Addr) (c1 : Nat) (l1 : List Int) (A2 : Option Addr) (c2 : Nat) (l2 : List Int) (r1 : List Int) (r2 : Int) (w : World) (hr1 : Kd.C (Kd.int .i64) w A1 l1.length l1) (hc1 : l1.length ≤ c1) (hr2 : Kd.C (Kd.int .i64) w A2 l2.length l2) (hc2 : l2.length ≤ c2) (h : spec_ComposeLinear.f k a0_0 a0_1 l1 l2 = some (r1, r2)) :
 Calls Try.prog 14 #[.agg #[.int .i64 a0_0, .int .i64 a0_1], .slice A1 l1.length c1, .slice A2 l2.length c2] w fun e w' => ∃ v0_ : Value, e = .returned (.tuple #[v0_, .int .i64 r2]) ∧ Kd.R (Kd.int .i64) 2 w' w.heap.size (fun _ => True) v0_ r1 ∧ Below w.heap.size w w' := by
 have hu27 := Try.underlying27
 have HR1 := Aq.mk hr1
 have HC1 := Aq.mk hc1
 clear hr1 hc1
 have HR2 := Aq.mk hr2
 have HC2 := Aq.mk hc2
 clear hr2 hc2
 have HB := Aq.mk (Below.refl w.heap.size w)
 have H : ((spec_ValidLinear.f k a0_0 a0_1 l1).bind fun t307 => (if t307 = true then ((spec_ValidLinear.f k a0_0 a0_1 l2).bind fun t308 => (spec_ComposeLinear.j0 k l1 l2 (!t308) a0_0 a0_1)) else (spec_ComposeLinear.j0 k l1 l2 true a0_0 a0_1))) = some (r1, r2) := h
 clear h
 have HC4 := Aq.mk H
 clear H
 go_enter Try.func14, Try.ntmps14
 go_upto_region 1 with (first | ((with_reducible refine gQd (N := 3) rfl ?_); refine xQe ?hg (N := 3) ?hd (cs := #[.int .i64 a0_0, .int .i64 a0_1]) (t := 27) ?hr ?_; (case hd => rfl); (case hg => rfl); (case hr => exact tH); intro gb306 hg w5 hbox hb; refine qM4 (bQT tB hb) hbox (tZ w hg) (tZ w hg) ?_; clear HB; intro HB BK306 GW306 GE306; clear hb hbox hg))
 (try simp only [Act.put, qSa, qSb, qSc])
 go_cut [18] (fun v18 wc => ∃ (kq : Nat) (x18_3 : Bool), v18 = .bool x18_3 ∧ Aq (spec_ComposeLinear.j0 kq l1 l2 x18_3 a0_0 a0_1 = some (r1, r2)) ∧ Aq (kq ≤ k) ∧ Aq (wc.heap[gb306]? = some (.cells #[.int .i64 a0_0, .int .i64 a0_1] 27 (0, 0))) ∧ Aq (Below w.heap.size w wc))
 case first =>
  have H := HC4.out
  clear HC4
  obtain ⟨t307, A6, H⟩ := qBd H
  by_cases c7 : t307 = true
  ·subst c7
   rw [if_pos rfl] at H
   obtain ⟨t308, A8, H⟩ := qBd H
   replace H' := Aq.mk H
   clear H
   have hcz9_0 : w5.cell? ⟨gb306, 0, none⟩ = some (.int .i64 a0_0) := (kQC BK306.out 0).trans rfl
   have hcz9_1 : w5.cell? ⟨gb306, 1, none⟩ = some (.int .i64 a0_1) := (kQC BK306.out 1).trans rfl
   have hfz9_0 := kQF BK306.out 0
   have hfz9_1 := kQF BK306.out 1
   go_wp2_with (first | ((with_reducible refine gQc (f := 24) rfl ?_); refine goesL_ (some 11) rfl rfl Try.func24 (by kernel_rfl) rfl #[.agg #[.int .i64 a0_0, .int .i64 a0_1], .slice A1 l1.length c1] rfl tL ?_; (with_reducible refine (spec_ValidLinear.calls k a0_0 a0_1 _ _ l1 true _ ?s1 ?s2 A6.out).mono ?_); (case s1 => exact tC ((Kd.C_below HR1.out HB.out))); (case s2 => exact HC1.out); rintro e w10 ⟨rfl, hb⟩; refine ⟨_, rfl, ?_⟩; refine qM2 (tQ BK306.out hb) (bQT tB hb) ?_; clear BK306 HB; intro BK306 HB; (try clear hb); (try clear hb2); (try clear hk); (try clear hi); have hcz11_0 : w10.cell? ⟨gb306, 0, none⟩ = some (.int .i64 a0_0) := (kQC BK306.out 0).trans rfl; have hcz11_1 : w10.cell? ⟨gb306, 1, none⟩ = some (.int .i64 a0_1) := (kQC BK306.out 1).trans rfl; have hfz11_0 := kQF BK306.out 0; have hfz11_1 := kQF BK306.out 1) | (go_at_call 24; (with_reducible refine (spec_ValidLinear.calls k a0_0 a0_1 _ _ l2 t308 _ ?s1 ?s2 A8.out).mono ?_); (case s1 => exact tC ((Kd.C_below HR2.out HB.out))); (case s2 => exact HC2.out); rintro e w12 ⟨rfl, hb⟩; refine qM2 (tQ BK306.out hb) (bQT tB hb) ?_; clear BK306 HB; intro BK306 HB; (try clear hb); (try clear hb2); (try clear hk); (try clear hi)))
   go_meet
   case rel => exact ⟨_, (!t308), tS, H', ⟨tO⟩, ⟨tG BK306.out⟩, ⟨tB⟩⟩
  replace c7 := Bool.eq_false_iff.mpr c7
  subst c7
  rw [if_neg (show ¬ (false = true) by decide)] at H
  replace H' := Aq.mk H
  clear H
  have hcz13_0 : w5.cell? ⟨gb306, 0, none⟩ = some (.int .i64 a0_0) := (kQC BK306.out 0).trans rfl
  have hcz13_1 : w5.cell? ⟨gb306, 1, none⟩ = some (.int .i64 a0_1) := (kQC BK306.out 1).trans rfl
  have hfz13_0 := kQF BK306.out 0
  have hfz13_1 := kQF BK306.out 1
  go_wp2_with (first | ((with_reducible refine gQc (f := 24) rfl ?_); refine goesL_ (some 11) rfl rfl Try.func24 (by kernel_rfl) rfl #[.agg #[.int .i64 a0_0, .int .i64 a0_1], .slice A1 l1.length c1] rfl tL ?_; (with_reducible refine (spec_ValidLinear.calls k a0_0 a0_1 _ _ l1 false _ ?s1 ?s2 A6.out).mono ?_); (case s1 => exact tC ((Kd.C_below HR1.out HB.out))); (case s2 => exact HC1.out); rintro e w14 ⟨rfl, hb⟩; refine ⟨_, rfl, ?_⟩; refine qM2 (tQ BK306.out hb) (bQT tB hb) ?_; clear BK306 HB; intro BK306 HB; (try clear hb); (try clear hb2); (try clear hk); (try clear hi)))
  go_meet
  case rel => exact ⟨_, (true), tS, H', ⟨tO⟩, ⟨tG BK306.out⟩, ⟨tB⟩⟩
 clear HC4
 try clear c1
 try clear c2
 try clear c7
 try clear hcz11_0
 try clear hcz11_1
 try clear hcz13_0
 try clear hcz13_1
 try clear hcz9_0
 try clear hcz9_1
 try clear hfz11_0
 try clear hfz11_1
 try clear hfz13_0
 try clear hfz13_1
 try clear hfz9_0
 try clear hfz9_1
 obtain ⟨kq, x18_3, rfl, HA, HJ3, BK306, HB⟩ := hcut
 cases kq with
 | zero => exact absurd HA.out (by simp [spec_ComposeLinear.j0])
 | succ kj3 =>
  have H := HA.out
  clear HA
  simp only [spec_ComposeLinear.j0] at H
  by_cases c15 : x18_3 = true
  ·subst c15
   rw [if_pos rfl] at H
   obtain ⟨y309, hy309⟩ : ∃ y_ : List Int, y_ = (([] : List Int)) := ⟨_, rfl⟩
   replace H : (some (y309, 1)) = some (r1, r2) := by first | (rw [hy309]; with_reducible exact H) | (have H2_ := (Option.bind_some _ _).symm.trans H; rw [hy309]; with_reducible exact H2_) | (have H2_ := (Option.bind_some _ _).symm.trans H; with_reducible exact H2_) | with_reducible exact H | (rw [hy309]; exact H) | exact H
   have Ny309 := Aq.mk hy309
   clear hy309
   simp only [Option.some.injEq, Prod.mk.injEq] at H
   obtain ⟨rfl, rfl⟩ := H
   go_wp2_with (first | ((with_reducible refine gQd (N := 19) rfl ?_); refine Kd.R_lit (Kd.int .i64) _ 2 ?hg (N := 19) ?hd (xs := ([] : List Int)) (inner := []) (ok := fun _ => True) (okp := fun _ => True) ?hr ?hp (fun _ hk => hk) trivial (Below.refl _ _) (Nat.le_refl _) (by simp) ?_; (case hd => rfl); (case hg => rfl); (case hr => exact tH); (case hp => exact (Reps.none _ _)); intro v310 w16 ho17 hb hg_ hnew_; clear hg_ hnew_; (first | rw [← Ny309.out] at ho17 | (simp only [Int.reduceToNat] at ho17; rw [← Ny309.out] at ho17)); refine qM3 (Kd.R_lower ho17 (bQZ tB)) (tQ BK306.out hb) (bQT tB hb) ?_; clear BK306 HB; intro HO311 BK306 HB; clear hb ho17))
   go_ret2
   exact ⟨_, tE, tR HO311.out, tB⟩
  replace c15 := Bool.eq_false_iff.mpr c15
  subst c15
  rw [if_neg (show ¬ (false = true) by decide)] at H
  obtain ⟨t312, A18, H⟩ := qBd H
  by_cases c19 : (t312.length : Int) > 12
  rotate_left
  ·rw [if_neg c19] at H
   have c19b0 := decide_eq_false c19
   have c19b1 : decide (12 < t312.length) = false := decide_eq_false (by omega)
   clear c19
   simp only [Option.some.injEq, Prod.mk.injEq] at H
   obtain ⟨rfl, rfl⟩ := H
   have hcz25_0 : wc.cell? ⟨gb306, 0, none⟩ = some (.int .i64 a0_0) := (kQC BK306.out 0).trans rfl
   have hcz25_1 : wc.cell? ⟨gb306, 1, none⟩ = some (.int .i64 a0_1) := (kQC BK306.out 1).trans rfl
   have hfz25_0 := kQF BK306.out 0
   have hfz25_1 := kQF BK306.out 1
   go_wp2_with (first | ((with_reducible refine gQc (f := 32) rfl ?_); refine goesL_ (some 23) rfl rfl Try.func32 (by kernel_rfl) rfl #[.agg #[.int .i64 a0_0, .int .i64 a0_1], .slice A1 l1.length c1, .slice A2 l2.length c2] rfl tL ?_; (with_reducible refine (spec_l03Compose.calls kj3 a0_0 a0_1 _ _ l1 _ _ l2 t312 _ ?s1 ?s2 ?s3 ?s4 A18.out).mono ?_); (case s1 => exact tC ((Kd.C_below HR1.out HB.out))); (case s2 => exact HC1.out); (case s3 => exact tC ((Kd.C_below HR2.out HB.out))); (case s4 => exact HC2.out); rintro e w26 ⟨v313, rfl, ho0, hb⟩; refine ⟨_, rfl, ?_⟩; refine qM3 (Kd.R_lower ho0 (bQZ tB)) (tQ BK306.out hb) (bQT tB hb) ?_; clear BK306 HB; intro HO314 BK306 HB; (try clear hb); (try clear hb2); (try clear hk); (try clear hi); (try clear ho0); obtain ⟨Ao27, co27, eo27⟩ := Kd.R_slice HO314.out; subst eo27))
   go_ret2
   exact ⟨_, tE, tR HO314.out, tB⟩
  rw [if_pos c19] at H
  have c19b0 := decide_eq_true c19
  have c19b1 : decide (12 < t312.length) = true := decide_eq_true (by omega)
  clear c19
  obtain ⟨y315, hy315⟩ : ∃ y_ : List Int, y_ = (([] : List Int)) := ⟨_, rfl⟩
  replace H : (some (y315, 3)) = some (r1, r2) := by first | (rw [hy315]; with_reducible exact H) | (have H2_ := (Option.bind_some _ _).symm.trans H; rw [hy315]; with_reducible exact H2_) | (have H2_ := (Option.bind_some _ _).symm.trans H; with_reducible exact H2_) | with_reducible exact H | (rw [hy315]; exact H) | exact H
  have Ny315 := Aq.mk hy315
  clear hy315
  simp only [Option.some.injEq, Prod.mk.injEq] at H
  obtain ⟨rfl, rfl⟩ := H
  have hcz20_0 : wc.cell? ⟨gb306, 0, none⟩ = some (.int .i64 a0_0) := (kQC BK306.out 0).trans rfl
  have hcz20_1 : wc.cell? ⟨gb306, 1, none⟩ = some (.int .i64 a0_1) := (kQC BK306.out 1).trans rfl
  have hfz20_0 := kQF BK306.out 0
  have hfz20_1 := kQF BK306.out 1
  go_wp2_with (first | ((with_reducible refine gQc (f := 32) rfl ?_); refine goesL_ (some 23) rfl rfl Try.func32 (by kernel_rfl) rfl #[.agg #[.int .i64 a0_0, .int .i64 a0_1], .slice A1 l1.length c1, .slice A2 l2.length c2] rfl tL ?_; (with_reducible refine (spec_l03Compose.calls kj3 a0_0 a0_1 _ _ l1 _ _ l2 t312 _ ?s1 ?s2 ?s3 ?s4 A18.out).mono ?_); (case s1 => exact tC ((Kd.C_below HR1.out HB.out))); (case s2 => exact HC1.out); (case s3 => exact tC ((Kd.C_below HR2.out HB.out))); (case s4 => exact HC2.out); rintro e w21 ⟨v313, rfl, ho0, hb⟩; refine ⟨_, rfl, ?_⟩; refine qM3 (Kd.R_lower ho0 (bQZ tB)) (tQ BK306.out hb) (bQT tB hb) ?_; clear BK306 HB; intro HO314 BK306 HB; (try clear hb); (try clear hb2); (try clear hk); (try clear hi); (try clear ho0); obtain ⟨Ao22, co22, eo22⟩ := Kd.R_slice HO314.out; subst eo22) | ((with_reducible refine gQd (N := 27) rfl ?_); refine Kd.R_lit (Kd.int .i64) _ 2 ?hg (N := 27) ?hd (xs := ([] : List Int)) (inner := []) (ok := fun _ => True) (okp := fun _ => True) ?hr ?hp (fun _ hk => hk) trivial (Below.refl _ _) (Nat.le_refl _) (by simp) ?_; (case hd => rfl); (case hg => rfl); (case hr => exact tH); (case hp => exact (Reps.none _ _)); intro v316 w23 ho24 hb hg_ hnew_; clear hg_ hnew_; (first | rw [← Ny315.out] at ho24 | (simp only [Int.reduceToNat] at ho24; rw [← Ny315.out] at ho24)); refine qM4 (Kd.R_elder' (tR HO314.out) (Kd.R_base ho24) hb) (Kd.R_lower (Kd.R_new' ho24 (Kd.R_lt (tR HO314.out))) (bQZ tB)) (tQ BK306.out hb) (bQT tB hb) ?_; clear HO314 BK306 HB; intro HO314 HO317 BK306 HB; clear hb ho24))
  go_ret2
  exact ⟨_, tE, by (with_reducible repeat (first | apply Kd.RqA | apply Kd.RqN | apply Kd.RqD)); exact Kd.R_mono HO317.out (fun _ hk => trivial), tB⟩
def impl_ComposeLinear.f (k : Nat) (a0_0 : Int) (a0_1 : Int) (l1 : List Int) (l2 : List Int) : Option (List Int × Int) := (impl_Field_linearCode.f k a0_0 a0_1 (([l1, l2] : List (List Int)))).bind fun t335 => (if t335 = 0 then ((impl_Field_compose.f k a0_0 a0_1 l1 l2).bind fun t336 => (if (t336.length : Int) > 12 then (some (([] : List Int), 3)) else (some (t336, 0)))) else (some (([] : List Int), t335)))
theorem impl_ComposeLinear.mono : ∀ a0 a1 a2 a3 k, LeO (impl_ComposeLinear.f k a0 a1 a2 a3) (impl_ComposeLinear.f (k + 1) a0 a1 a2 a3) := by
 intro a0 a1 a2 a3 k
 unfold impl_ComposeLinear.f
 repeat' first
  | (with_reducible first | apply impl_Field_compose.mono | apply impl_Field_linearCode.mono | exact LeO.refl _ | exact LeO.none _ | refine LeO.ite ?_ ?_ | refine LeO.bind ?_ (fun _ => ?_))
  | exact LeO.none _
  | refine LeO.ite ?_ ?_
  | refine LeO.bind ?_ (fun _ => ?_)
theorem impl_ComposeLinear.calls (k : Nat) (a0_0 : Int) (a0_1 : Int) (P1_ : Nat → Prop) (A1 : Option Addr) (c1 : Nat) (l1 : List Int) (P2_ : Nat → Prop) (A2 : Option Addr) (c2 : Nat) (l2 : List Int) (r1 : List Int) (r2 : Int) (w : World) (hs1 : Kd.V (Kd.int .i64) 2 w w.heap.size (fun k_ => P1_ k_) (.slice A1 l1.length c1) l1) (hs2 : Kd.V (Kd.int .i64) 2 w w.heap.size (fun k_ => P2_ k_) (.slice A2 l2.length c2) l2) (h : impl_ComposeLinear.f k a0_0 a0_1 l1 l2 = some (r1, r2)) :
 Calls Try.prog 15 #[.agg #[.int .i64 a0_0, .int .i64 a0_1], .slice A1 l1.length c1, .slice A2 l2.length c2] w fun e w' => ∃ v0_ : Value, e = .returned (.tuple #[v0_, .int .i64 r2]) ∧ Kd.R (Kd.int .i64) 2 w' w.heap.size (fun k_ => (w.heap.size ≤ k_)) v0_ r1 ∧ Below w.heap.size w w' := by
 have hu27 := Try.underlying27
 have HO1 := Aq.mk (show Kd.V (Kd.int .i64) 2 w w.heap.size (fun k_ => ((P1_ k_ ∨ P2_ k_) ∨ w.heap.size ≤ k_)) (.slice A1 l1.length c1) l1 from Kd.V_mono hs1 (fun k_ hk => .inl (.inl hk)))
 have HO2 := Aq.mk (show Kd.V (Kd.int .i64) 2 w w.heap.size (fun k_ => ((P1_ k_ ∨ P2_ k_) ∨ w.heap.size ≤ k_)) (.slice A2 l2.length c2) l2 from Kd.V_mono hs2 (fun k_ hk => .inl (.inr hk)))
 have HB := Aq.mk (Below.refl w.heap.size w)
 have H : ((impl_Field_linearCode.f k a0_0 a0_1 (([l1, l2] : List (List Int)))).bind fun t335 => (if t335 = 0 then ((impl_Field_compose.f k a0_0 a0_1 l1 l2).bind fun t336 => (if (t336.length : Int) > 12 then (some (([] : List Int), 3)) else (some (t336, 0)))) else (some (([] : List Int), t335)))) = some (r1, r2) := h
 clear h
 obtain ⟨y332, hy332⟩ : ∃ y_ : List (List Int), y_ = (([l1, l2] : List (List Int))) := ⟨_, rfl⟩
 replace H : ((impl_Field_linearCode.f k a0_0 a0_1 y332).bind fun t335 => (if t335 = 0 then ((impl_Field_compose.f k a0_0 a0_1 l1 l2).bind fun t336 => (if (t336.length : Int) > 12 then (some (([] : List Int), 3)) else (some (t336, 0)))) else (some (([] : List Int), t335)))) = some (r1, r2) := by first | (rw [hy332]; with_reducible exact H) | (have H2_ := (Option.bind_some _ _).symm.trans H; rw [hy332]; with_reducible exact H2_) | (have H2_ := (Option.bind_some _ _).symm.trans H; with_reducible exact H2_) | with_reducible exact H | (rw [hy332]; exact H) | exact H
 have Ny332 := Aq.mk hy332
 clear hy332
 obtain ⟨t335, A4, H⟩ := qBd H
 by_cases c5 : t335 = 0
 rotate_left
 ·rw [if_neg c5] at H
  have c5b0 := beq_eq_false_iff_ne.mpr c5
  have c5b1 := bne_iff_ne.mpr c5
  simp only [Option.some.injEq, Prod.mk.injEq] at H
  obtain ⟨rfl, rfl⟩ := H
  go_enter Try.func15, Try.ntmps15
  go_wp2_with (first | ((with_reducible refine gQd (N := 3) rfl ?_); refine xQe ?hg (N := 3) ?hd (cs := #[.int .i64 a0_0, .int .i64 a0_1]) (t := 27) ?hr ?_; (case hd => rfl); (case hg => rfl); (case hr => exact tH); intro gb331 hg w26 hbox hb; refine qM6 (Kd.V_below (Kd.V_elderB (by (with_reducible repeat (first | apply Kd.V_alloc | apply Kd.V_drewN | apply Kd.V_drew)); exact HO1.out) gb331 (Nat.le_of_eq hg.symm)) hb) (Kd.V_below (Kd.V_elderB (by (with_reducible repeat (first | apply Kd.V_alloc | apply Kd.V_drewN | apply Kd.V_drew)); exact HO2.out) gb331 (Nat.le_of_eq hg.symm)) hb) (bQT tB hb) hbox (tZ w hg) (tZ w hg) ?_; clear HO1 HO2 HB; intro HO1 HO2 HB BK331 GW331 GE331; clear hb hbox hg; have hcz27_0 : w26.cell? ⟨gb331, 0, none⟩ = some (.int .i64 a0_0) := (kQC BK331.out 0).trans rfl; have hcz27_1 : w26.cell? ⟨gb331, 1, none⟩ = some (.int .i64 a0_1) := (kQC BK331.out 1).trans rfl; have hfz27_0 := kQF BK331.out 0; have hfz27_1 := kQF BK331.out 1) | ((with_reducible refine gQd (N := 13) rfl ?_); refine Kd.N_lit (Kd.slice 2 (Kd.int .i64)) _ 24 ?hg (N' := 13) ?hd (xs := ([l1, l2] : List (List Int))) (inner := [.slice A1 l1.length c1, .slice A2 l2.length c2]) (ok := (fun k_ => ((P1_ k_ ∨ P2_ k_) ∨ w.heap.size ≤ k_) ∧ k_ ≠ gb331)) (okp := (fun k_ => ((P1_ k_ ∨ P2_ k_) ∨ w.heap.size ≤ k_) ∧ k_ ≠ gb331)) ?hr ?hp (fun _ hk => hk) ((show ∀ k_, w26.heap.size ≤ k_ → (fun k_ => ((P1_ k_ ∨ P2_ k_) ∨ w.heap.size ≤ k_) ∧ k_ ≠ gb331) k_ from fun k_ hk => ⟨(.inr (Nat.le_trans (bQZ tB) hk)), Kd.freshB (g := gb331) (o := .cells #[.int .i64 a0_0, .int .i64 a0_1] 27 (0, 0)) (tG BK331.out) k_ hk⟩) _ (Nat.le_refl _)) (Below.refl _ _) (Nat.le_refl _) (by simp) ?_; (case hd => rfl); (case hg => rfl); (case hr => exact tH); (case hp => exact (Reps.one (show Kd.FK (Kd.slice 2 (Kd.int .i64)) _ _ l1 [.slice A1 l1.length c1] from (Kd.FK_slice_mk (Kd.V_reads' (Kd.V_mono (ok' := (fun k_ => ((P1_ k_ ∨ P2_ k_) ∨ w.heap.size ≤ k_) ∧ k_ ≠ gb331)) (HO1.out) (fun k_ hk => ⟨hk.1, hk.2⟩))).2.1 (Kd.V_F (Kd.V_mono (ok' := (fun k_ => ((P1_ k_ ∨ P2_ k_) ∨ w.heap.size ≤ k_) ∧ k_ ≠ gb331)) (HO1.out) (fun k_ hk => ⟨hk.1, hk.2⟩))))) (Reps.one (show Kd.FK (Kd.slice 2 (Kd.int .i64)) _ _ l2 [.slice A2 l2.length c2] from (Kd.FK_slice_mk (Kd.V_reads' (Kd.V_mono (ok' := (fun k_ => ((P1_ k_ ∨ P2_ k_) ∨ w.heap.size ≤ k_) ∧ k_ ≠ gb331)) (HO2.out) (fun k_ hk => ⟨hk.1, hk.2⟩))).2.1 (Kd.V_F (Kd.V_mono (ok' := (fun k_ => ((P1_ k_ ∨ P2_ k_) ∨ w.heap.size ≤ k_) ∧ k_ ≠ gb331)) (HO2.out) (fun k_ hk => ⟨hk.1, hk.2⟩))))) (Reps.none _ _)))); intro v333 w28 ho29 hb hg_ hnew_; clear hg_ hnew_; (first | rw [← Ny332.out] at ho29 | (simp only [Int.reduceToNat] at ho29; rw [← Ny332.out] at ho29)); refine qM5 (Kd.V_elder' (by (with_reducible repeat (first | apply Kd.V_alloc | apply Kd.V_drewN | apply Kd.V_drew)); exact HO1.out) (Kd.N_base ho29) hb) (Kd.V_elder' (by (with_reducible repeat (first | apply Kd.V_alloc | apply Kd.V_drewN | apply Kd.V_drew)); exact HO2.out) (Kd.N_base ho29) hb) (Kd.N_lower ho29 (bQZ tB)) (tQ BK331.out hb) (bQT tB hb) ?_; clear HO1 HO2 BK331 HB; intro HO1 HO2 HO334 BK331 HB; clear hb ho29; obtain ⟨Ao30, co30, eo30⟩ := Kd.N_slice HO334.out; subst eo30) | ((with_reducible refine gQc (f := 28) rfl ?_); refine goesL_ (some 14) rfl rfl Try.func28 (by kernel_rfl) rfl #[.agg #[.int .i64 a0_0, .int .i64 a0_1], .slice Ao30 y332.length co30] rfl tL ?_; (with_reducible refine (impl_Field_linearCode.calls k a0_0 a0_1 _ _ y332 t335 _ ?s1 ?s2 A4.out).mono ?_); (case s1 => exact tC ((Kd.N_reads' HO334.out).2.2)); (case s2 => exact (Kd.N_reads' HO334.out).2.1); rintro e w31 ⟨rfl, hb⟩; refine ⟨_, rfl, ?_⟩; refine qM5 (Kd.V_below (by (with_reducible repeat (first | apply Kd.V_alloc | apply Kd.V_drewN | apply Kd.V_drew)); exact HO1.out) hb) (Kd.V_below (by (with_reducible repeat (first | apply Kd.V_alloc | apply Kd.V_drewN | apply Kd.V_drew)); exact HO2.out) hb) (Kd.N_below (by (with_reducible repeat (first | apply Kd.N_alloc | apply Kd.N_drewN | apply Kd.N_drew)); exact HO334.out) hb) (tQ BK331.out hb) (bQT tB hb) ?_; clear HO1 HO2 HO334 BK331 HB; intro HO1 HO2 HO334 BK331 HB; (try clear hb); (try clear hb2); (try clear hk); (try clear hi)))
  go_ret2
  exact ⟨_, tE, by first | exact Kd.R_nil _ _ _ _ _ | exact Kd.N_nil _ _ _ _ _ | exact Kd.V_nil _ _ _ _ _ | exact Kd.Q_nil _ _ _ _ _ | exact Kd.S_nil _ _ _ _ _, tB⟩
 rw [if_pos c5] at H
 have c5b0 := beq_iff_eq.mpr c5
 have c5b1 := bne_eq_false_iff_eq.mpr c5
 clear c5
 obtain ⟨t336, A6, H⟩ := qBd H
 by_cases c7 : (t336.length : Int) > 12
 ·rw [if_pos c7] at H
  have c7b0 := decide_eq_true c7
  have c7b1 : decide (12 < t336.length) = true := decide_eq_true (by omega)
  clear c7
  simp only [Option.some.injEq, Prod.mk.injEq] at H
  obtain ⟨rfl, rfl⟩ := H
  go_enter Try.func15, Try.ntmps15
  go_wp2_with (first | ((with_reducible refine gQd (N := 3) rfl ?_); refine xQe ?hg (N := 3) ?hd (cs := #[.int .i64 a0_0, .int .i64 a0_1]) (t := 27) ?hr ?_; (case hd => rfl); (case hg => rfl); (case hr => exact tH); intro gb331 hg w8 hbox hb; refine qM6 (Kd.V_below (Kd.V_elderB (by (with_reducible repeat (first | apply Kd.V_alloc | apply Kd.V_drewN | apply Kd.V_drew)); exact HO1.out) gb331 (Nat.le_of_eq hg.symm)) hb) (Kd.V_below (Kd.V_elderB (by (with_reducible repeat (first | apply Kd.V_alloc | apply Kd.V_drewN | apply Kd.V_drew)); exact HO2.out) gb331 (Nat.le_of_eq hg.symm)) hb) (bQT tB hb) hbox (tZ w hg) (tZ w hg) ?_; clear HO1 HO2 HB; intro HO1 HO2 HB BK331 GW331 GE331; clear hb hbox hg; have hcz9_0 : w8.cell? ⟨gb331, 0, none⟩ = some (.int .i64 a0_0) := (kQC BK331.out 0).trans rfl; have hcz9_1 : w8.cell? ⟨gb331, 1, none⟩ = some (.int .i64 a0_1) := (kQC BK331.out 1).trans rfl; have hfz9_0 := kQF BK331.out 0; have hfz9_1 := kQF BK331.out 1) | ((with_reducible refine gQd (N := 13) rfl ?_); refine Kd.N_lit (Kd.slice 2 (Kd.int .i64)) _ 24 ?hg (N' := 13) ?hd (xs := ([l1, l2] : List (List Int))) (inner := [.slice A1 l1.length c1, .slice A2 l2.length c2]) (ok := (fun k_ => ((P1_ k_ ∨ P2_ k_) ∨ w.heap.size ≤ k_) ∧ k_ ≠ gb331)) (okp := (fun k_ => ((P1_ k_ ∨ P2_ k_) ∨ w.heap.size ≤ k_) ∧ k_ ≠ gb331)) ?hr ?hp (fun _ hk => hk) ((show ∀ k_, w8.heap.size ≤ k_ → (fun k_ => ((P1_ k_ ∨ P2_ k_) ∨ w.heap.size ≤ k_) ∧ k_ ≠ gb331) k_ from fun k_ hk => ⟨(.inr (Nat.le_trans (bQZ tB) hk)), Kd.freshB (g := gb331) (o := .cells #[.int .i64 a0_0, .int .i64 a0_1] 27 (0, 0)) (tG BK331.out) k_ hk⟩) _ (Nat.le_refl _)) (Below.refl _ _) (Nat.le_refl _) (by simp) ?_; (case hd => rfl); (case hg => rfl); (case hr => exact tH); (case hp => exact (Reps.one (show Kd.FK (Kd.slice 2 (Kd.int .i64)) _ _ l1 [.slice A1 l1.length c1] from (Kd.FK_slice_mk (Kd.V_reads' (Kd.V_mono (ok' := (fun k_ => ((P1_ k_ ∨ P2_ k_) ∨ w.heap.size ≤ k_) ∧ k_ ≠ gb331)) (HO1.out) (fun k_ hk => ⟨hk.1, hk.2⟩))).2.1 (Kd.V_F (Kd.V_mono (ok' := (fun k_ => ((P1_ k_ ∨ P2_ k_) ∨ w.heap.size ≤ k_) ∧ k_ ≠ gb331)) (HO1.out) (fun k_ hk => ⟨hk.1, hk.2⟩))))) (Reps.one (show Kd.FK (Kd.slice 2 (Kd.int .i64)) _ _ l2 [.slice A2 l2.length c2] from (Kd.FK_slice_mk (Kd.V_reads' (Kd.V_mono (ok' := (fun k_ => ((P1_ k_ ∨ P2_ k_) ∨ w.heap.size ≤ k_) ∧ k_ ≠ gb331)) (HO2.out) (fun k_ hk => ⟨hk.1, hk.2⟩))).2.1 (Kd.V_F (Kd.V_mono (ok' := (fun k_ => ((P1_ k_ ∨ P2_ k_) ∨ w.heap.size ≤ k_) ∧ k_ ≠ gb331)) (HO2.out) (fun k_ hk => ⟨hk.1, hk.2⟩))))) (Reps.none _ _)))); intro v333 w10 ho11 hb hg_ hnew_; clear hg_ hnew_; (first | rw [← Ny332.out] at ho11 | (simp only [Int.reduceToNat] at ho11; rw [← Ny332.out] at ho11)); refine qM5 (Kd.V_elder' (by (with_reducible repeat (first | apply Kd.V_alloc | apply Kd.V_drewN | apply Kd.V_drew)); exact HO1.out) (Kd.N_base ho11) hb) (Kd.V_elder' (by (with_reducible repeat (first | apply Kd.V_alloc | apply Kd.V_drewN | apply Kd.V_drew)); exact HO2.out) (Kd.N_base ho11) hb) (Kd.N_lower ho11 (bQZ tB)) (tQ BK331.out hb) (bQT tB hb) ?_; clear HO1 HO2 BK331 HB; intro HO1 HO2 HO334 BK331 HB; clear hb ho11; obtain ⟨Ao12, co12, eo12⟩ := Kd.N_slice HO334.out; subst eo12) | ((with_reducible refine gQc (f := 28) rfl ?_); refine goesL_ (some 14) rfl rfl Try.func28 (by kernel_rfl) rfl #[.agg #[.int .i64 a0_0, .int .i64 a0_1], .slice Ao12 y332.length co12] rfl tL ?_; (with_reducible refine (impl_Field_linearCode.calls k a0_0 a0_1 _ _ y332 t335 _ ?s1 ?s2 A4.out).mono ?_); (case s1 => exact tC ((Kd.N_reads' HO334.out).2.2)); (case s2 => exact (Kd.N_reads' HO334.out).2.1); rintro e w13 ⟨rfl, hb⟩; refine ⟨_, rfl, ?_⟩; refine qM5 (Kd.V_below (by (with_reducible repeat (first | apply Kd.V_alloc | apply Kd.V_drewN | apply Kd.V_drew)); exact HO1.out) hb) (Kd.V_below (by (with_reducible repeat (first | apply Kd.V_alloc | apply Kd.V_drewN | apply Kd.V_drew)); exact HO2.out) hb) (Kd.N_below (by (with_reducible repeat (first | apply Kd.N_alloc | apply Kd.N_drewN | apply Kd.N_drew)); exact HO334.out) hb) (tQ BK331.out hb) (bQT tB hb) ?_; clear HO1 HO2 HO334 BK331 HB; intro HO1 HO2 HO334 BK331 HB; (try clear hb); (try clear hb2); (try clear hk); (try clear hi); have hcz14_0 : w13.cell? ⟨gb331, 0, none⟩ = some (.int .i64 a0_0) := (kQC BK331.out 0).trans rfl; have hcz14_1 : w13.cell? ⟨gb331, 1, none⟩ = some (.int .i64 a0_1) := (kQC BK331.out 1).trans rfl; have hfz14_0 := kQF BK331.out 0; have hfz14_1 := kQF BK331.out 1) | ((with_reducible refine gQc (f := 33) rfl ?_); refine goesL_ (some 21) rfl rfl Try.func33 (by kernel_rfl) rfl #[.agg #[.int .i64 a0_0, .int .i64 a0_1], .slice A1 l1.length c1, .slice A2 l2.length c2] rfl tL ?_; (with_reducible refine (impl_Field_compose.calls k a0_0 a0_1 _ _ l1 _ _ l2 t336 _ ?s1 ?s2 ?s3 ?s4 A6.out).mono ?_); (case s1 => exact tC ((Kd.V_reads' HO1.out).2.2)); (case s2 => exact (Kd.V_reads' HO1.out).2.1); (case s3 => exact tC ((Kd.V_reads' HO2.out).2.2)); (case s4 => exact (Kd.V_reads' HO2.out).2.1); rintro e w15 ⟨v337, rfl, ho0, hb⟩; refine ⟨_, rfl, ?_⟩; refine qM6 (Kd.V_elder' (by (with_reducible repeat (first | apply Kd.V_alloc | apply Kd.V_drewN | apply Kd.V_drew)); exact HO1.out) (Kd.R_base ho0) hb) (Kd.V_elder' (by (with_reducible repeat (first | apply Kd.V_alloc | apply Kd.V_drewN | apply Kd.V_drew)); exact HO2.out) (Kd.R_base ho0) hb) (Kd.N_elder' (by (with_reducible repeat (first | apply Kd.N_alloc | apply Kd.N_drewN | apply Kd.N_drew)); exact HO334.out) (Kd.R_base ho0) hb) (Kd.R_lower (Kd.R_newM (M := fun k_ => (w.heap.size ≤ k_)) ho0 (bQZ tB) (fun k_ h_ => h_)) (bQZ tB)) (tQ BK331.out hb) (bQT tB hb) ?_; clear HO1 HO2 HO334 BK331 HB; intro HO1 HO2 HO334 HO338 BK331 HB; (try clear hb); (try clear hb2); (try clear hk); (try clear hi); (try clear ho0); obtain ⟨Ao16, co16, eo16⟩ := Kd.R_slice HO338.out; subst eo16))
  go_ret2
  exact ⟨_, tE, by first | exact Kd.R_nil _ _ _ _ _ | exact Kd.N_nil _ _ _ _ _ | exact Kd.V_nil _ _ _ _ _ | exact Kd.Q_nil _ _ _ _ _ | exact Kd.S_nil _ _ _ _ _, tB⟩
 rw [if_neg c7] at H
 have c7b0 := decide_eq_false c7
 have c7b1 : decide (12 < t336.length) = false := decide_eq_false (by omega)
 clear c7
 simp only [Option.some.injEq, Prod.mk.injEq] at H
 obtain ⟨rfl, rfl⟩ := H
 go_enter Try.func15, Try.ntmps15
 go_wp2_with (first | ((with_reducible refine gQd (N := 3) rfl ?_); refine xQe ?hg (N := 3) ?hd (cs := #[.int .i64 a0_0, .int .i64 a0_1]) (t := 27) ?hr ?_; (case hd => rfl); (case hg => rfl); (case hr => exact tH); intro gb331 hg w17 hbox hb; refine qM6 (Kd.V_below (Kd.V_elderB (by (with_reducible repeat (first | apply Kd.V_alloc | apply Kd.V_drewN | apply Kd.V_drew)); exact HO1.out) gb331 (Nat.le_of_eq hg.symm)) hb) (Kd.V_below (Kd.V_elderB (by (with_reducible repeat (first | apply Kd.V_alloc | apply Kd.V_drewN | apply Kd.V_drew)); exact HO2.out) gb331 (Nat.le_of_eq hg.symm)) hb) (bQT tB hb) hbox (tZ w hg) (tZ w hg) ?_; clear HO1 HO2 HB; intro HO1 HO2 HB BK331 GW331 GE331; clear hb hbox hg; have hcz18_0 : w17.cell? ⟨gb331, 0, none⟩ = some (.int .i64 a0_0) := (kQC BK331.out 0).trans rfl; have hcz18_1 : w17.cell? ⟨gb331, 1, none⟩ = some (.int .i64 a0_1) := (kQC BK331.out 1).trans rfl; have hfz18_0 := kQF BK331.out 0; have hfz18_1 := kQF BK331.out 1) | ((with_reducible refine gQd (N := 13) rfl ?_); refine Kd.N_lit (Kd.slice 2 (Kd.int .i64)) _ 24 ?hg (N' := 13) ?hd (xs := ([l1, l2] : List (List Int))) (inner := [.slice A1 l1.length c1, .slice A2 l2.length c2]) (ok := (fun k_ => ((P1_ k_ ∨ P2_ k_) ∨ w.heap.size ≤ k_) ∧ k_ ≠ gb331)) (okp := (fun k_ => ((P1_ k_ ∨ P2_ k_) ∨ w.heap.size ≤ k_) ∧ k_ ≠ gb331)) ?hr ?hp (fun _ hk => hk) ((show ∀ k_, w17.heap.size ≤ k_ → (fun k_ => ((P1_ k_ ∨ P2_ k_) ∨ w.heap.size ≤ k_) ∧ k_ ≠ gb331) k_ from fun k_ hk => ⟨(.inr (Nat.le_trans (bQZ tB) hk)), Kd.freshB (g := gb331) (o := .cells #[.int .i64 a0_0, .int .i64 a0_1] 27 (0, 0)) (tG BK331.out) k_ hk⟩) _ (Nat.le_refl _)) (Below.refl _ _) (Nat.le_refl _) (by simp) ?_; (case hd => rfl); (case hg => rfl); (case hr => exact tH); (case hp => exact (Reps.one (show Kd.FK (Kd.slice 2 (Kd.int .i64)) _ _ l1 [.slice A1 l1.length c1] from (Kd.FK_slice_mk (Kd.V_reads' (Kd.V_mono (ok' := (fun k_ => ((P1_ k_ ∨ P2_ k_) ∨ w.heap.size ≤ k_) ∧ k_ ≠ gb331)) (HO1.out) (fun k_ hk => ⟨hk.1, hk.2⟩))).2.1 (Kd.V_F (Kd.V_mono (ok' := (fun k_ => ((P1_ k_ ∨ P2_ k_) ∨ w.heap.size ≤ k_) ∧ k_ ≠ gb331)) (HO1.out) (fun k_ hk => ⟨hk.1, hk.2⟩))))) (Reps.one (show Kd.FK (Kd.slice 2 (Kd.int .i64)) _ _ l2 [.slice A2 l2.length c2] from (Kd.FK_slice_mk (Kd.V_reads' (Kd.V_mono (ok' := (fun k_ => ((P1_ k_ ∨ P2_ k_) ∨ w.heap.size ≤ k_) ∧ k_ ≠ gb331)) (HO2.out) (fun k_ hk => ⟨hk.1, hk.2⟩))).2.1 (Kd.V_F (Kd.V_mono (ok' := (fun k_ => ((P1_ k_ ∨ P2_ k_) ∨ w.heap.size ≤ k_) ∧ k_ ≠ gb331)) (HO2.out) (fun k_ hk => ⟨hk.1, hk.2⟩))))) (Reps.none _ _)))); intro v333 w19 ho20 hb hg_ hnew_; clear hg_ hnew_; (first | rw [← Ny332.out] at ho20 | (simp only [Int.reduceToNat] at ho20; rw [← Ny332.out] at ho20)); refine qM5 (Kd.V_elder' (by (with_reducible repeat (first | apply Kd.V_alloc | apply Kd.V_drewN | apply Kd.V_drew)); exact HO1.out) (Kd.N_base ho20) hb) (Kd.V_elder' (by (with_reducible repeat (first | apply Kd.V_alloc | apply Kd.V_drewN | apply Kd.V_drew)); exact HO2.out) (Kd.N_base ho20) hb) (Kd.N_lower ho20 (bQZ tB)) (tQ BK331.out hb) (bQT tB hb) ?_; clear HO1 HO2 BK331 HB; intro HO1 HO2 HO334 BK331 HB; clear hb ho20; obtain ⟨Ao21, co21, eo21⟩ := Kd.N_slice HO334.out; subst eo21) | ((with_reducible refine gQc (f := 28) rfl ?_); refine goesL_ (some 14) rfl rfl Try.func28 (by kernel_rfl) rfl #[.agg #[.int .i64 a0_0, .int .i64 a0_1], .slice Ao21 y332.length co21] rfl tL ?_; (with_reducible refine (impl_Field_linearCode.calls k a0_0 a0_1 _ _ y332 t335 _ ?s1 ?s2 A4.out).mono ?_); (case s1 => exact tC ((Kd.N_reads' HO334.out).2.2)); (case s2 => exact (Kd.N_reads' HO334.out).2.1); rintro e w22 ⟨rfl, hb⟩; refine ⟨_, rfl, ?_⟩; refine qM5 (Kd.V_below (by (with_reducible repeat (first | apply Kd.V_alloc | apply Kd.V_drewN | apply Kd.V_drew)); exact HO1.out) hb) (Kd.V_below (by (with_reducible repeat (first | apply Kd.V_alloc | apply Kd.V_drewN | apply Kd.V_drew)); exact HO2.out) hb) (Kd.N_below (by (with_reducible repeat (first | apply Kd.N_alloc | apply Kd.N_drewN | apply Kd.N_drew)); exact HO334.out) hb) (tQ BK331.out hb) (bQT tB hb) ?_; clear HO1 HO2 HO334 BK331 HB; intro HO1 HO2 HO334 BK331 HB; (try clear hb); (try clear hb2); (try clear hk); (try clear hi); have hcz23_0 : w22.cell? ⟨gb331, 0, none⟩ = some (.int .i64 a0_0) := (kQC BK331.out 0).trans rfl; have hcz23_1 : w22.cell? ⟨gb331, 1, none⟩ = some (.int .i64 a0_1) := (kQC BK331.out 1).trans rfl; have hfz23_0 := kQF BK331.out 0; have hfz23_1 := kQF BK331.out 1) | ((with_reducible refine gQc (f := 33) rfl ?_); refine goesL_ (some 21) rfl rfl Try.func33 (by kernel_rfl) rfl #[.agg #[.int .i64 a0_0, .int .i64 a0_1], .slice A1 l1.length c1, .slice A2 l2.length c2] rfl tL ?_; (with_reducible refine (impl_Field_compose.calls k a0_0 a0_1 _ _ l1 _ _ l2 t336 _ ?s1 ?s2 ?s3 ?s4 A6.out).mono ?_); (case s1 => exact tC ((Kd.V_reads' HO1.out).2.2)); (case s2 => exact (Kd.V_reads' HO1.out).2.1); (case s3 => exact tC ((Kd.V_reads' HO2.out).2.2)); (case s4 => exact (Kd.V_reads' HO2.out).2.1); rintro e w24 ⟨v337, rfl, ho0, hb⟩; refine ⟨_, rfl, ?_⟩; refine qM6 (Kd.V_elder' (by (with_reducible repeat (first | apply Kd.V_alloc | apply Kd.V_drewN | apply Kd.V_drew)); exact HO1.out) (Kd.R_base ho0) hb) (Kd.V_elder' (by (with_reducible repeat (first | apply Kd.V_alloc | apply Kd.V_drewN | apply Kd.V_drew)); exact HO2.out) (Kd.R_base ho0) hb) (Kd.N_elder' (by (with_reducible repeat (first | apply Kd.N_alloc | apply Kd.N_drewN | apply Kd.N_drew)); exact HO334.out) (Kd.R_base ho0) hb) (Kd.R_lower (Kd.R_newM (M := fun k_ => (w.heap.size ≤ k_)) ho0 (bQZ tB) (fun k_ h_ => h_)) (bQZ tB)) (tQ BK331.out hb) (bQT tB hb) ?_; clear HO1 HO2 HO334 BK331 HB; intro HO1 HO2 HO334 HO338 BK331 HB; (try clear hb); (try clear hb2); (try clear hk); (try clear hi); (try clear ho0); obtain ⟨Ao25, co25, eo25⟩ := Kd.R_slice HO338.out; subst eo25))
 go_ret2
 exact ⟨_, tE, by (with_reducible repeat (first | apply Kd.RqA | apply Kd.RqN | apply Kd.RqD)); exact Kd.R_mono HO338.out (fun _ hk => hk.1), tB⟩
end Go.Proofs.Ytpigghpimgkilaa.P
