/- Functions of the program and what they tell, as the printing program wrote it. -/
import Derived.Test.YtbalkaphibnpcaaPx0
import Derived.Test.YtbalkaphibnpcaaPx4
import Derived.Test.YtbalkaphibnpcaaPx9
import Derived.Test.YtbalkaphibnpcaaPx11
namespace Go.Proofs.Ytbalkaphibnpcaa.P
open Go.Shelf Go.RowKit Go.Proofs.YtbalkaphibnpcaaW.PrintWords Go.Proofs.YtbalkaphibnpcaaW.PrintLast Go.Proofs.YtbalkaphibnpcaaW.PrintMore
attribute [local go_sem] max2_int min2_int max_two min_two max_three min_three max_four min_four
set_option linter.unusedVariables false
set_option linter.unusedSimpArgs false
set_option maxHeartbeats 8000000
set_option maxRecDepth 100000
def spec_FieldEchelon.f (k : Nat) (a0_0 : Int) (a0_1 : Int) (a1 : Int) (l2 : List (List Int)) : Option ((List (List Int)) × Int) := (spec_l04Rows.f k a0_0 a0_1 a1 l2).bind fun t309 => (if t309 = 0 then ((spec_l04Echelon.f k a0_0 a0_1 a1 l2).bind fun t310 => (some (t310, 0))) else (some ((([] : List (List Int))), t309)))
theorem spec_FieldEchelon.mono : ∀ a0 a1 a2 a3 k, LeO (spec_FieldEchelon.f k a0 a1 a2 a3) (spec_FieldEchelon.f (k + 1) a0 a1 a2 a3) := by
 intro a0 a1 a2 a3 k
 unfold spec_FieldEchelon.f
 repeat' first
  | (with_reducible first | apply spec_l04Echelon.mono | apply spec_l04Rows.mono | exact LeO.refl _ | exact LeO.none _ | refine LeO.ite ?_ ?_ | refine LeO.bind ?_ (fun _ => ?_))
  | exact LeO.none _
  | refine LeO.ite ?_ ?_
  | refine LeO.bind ?_ (fun _ => ?_)
theorem spec_FieldEchelon.calls (k : Nat) (a0_0 : Int) (a0_1 : Int) (a1 : Int) (A2 : Option Addr) (c2 : Nat) (l2 : List (List Int)) (r1 : List (List Int)) (r2 : Int) (w : World) (hr2 : Kd.C (Kd.slice 2 (Kd.int .i64)) w A2 l2.length l2) (hc2 : l2.length ≤ c2) (h : spec_FieldEchelon.f k a0_0 a0_1 a1 l2 = some (r1, r2)) :
 Calls Try.prog 14 #[.agg #[.int .i64 a0_0, .int .i64 a0_1], .int .i64 a1, .slice A2 l2.length c2] w fun e w' => ∃ v0_ : Value, e = .returned (.tuple #[v0_, .int .i64 r2]) ∧ Kd.N (Kd.slice 2 (Kd.int .i64)) 38 w' w.heap.size (fun k_ => (w.heap.size ≤ k_)) v0_ r1 ∧ Below w.heap.size w w' := by
 have hu28 := Try.underlying28
 have HR2 := Aq.mk hr2
 have HC2 := Aq.mk hc2
 clear hr2 hc2
 have HB := Aq.mk (Below.refl w.heap.size w)
 have H : ((spec_l04Rows.f k a0_0 a0_1 a1 l2).bind fun t309 => (if t309 = 0 then ((spec_l04Echelon.f k a0_0 a0_1 a1 l2).bind fun t310 => (some (t310, 0))) else (some ((([] : List (List Int))), t309)))) = some (r1, r2) := h
 clear h
 obtain ⟨t309, A4, H⟩ := qBd H
 by_cases c5 : t309 = 0
 ·rw [if_pos c5] at H
  have c5b0 := beq_iff_eq.mpr c5
  have c5b1 := bne_eq_false_iff_eq.mpr c5
  clear c5
  obtain ⟨t310, A6, H⟩ := qBd H
  simp only [Option.some.injEq, Prod.mk.injEq] at H
  obtain ⟨rfl, rfl⟩ := H
  go_enter Try.func14, Try.ntmps14
  go_wp2_with (first | ((with_reducible refine gQd (N := 3) rfl ?_); refine xQe ?hg (N := 3) ?hd (cs := #[.int .i64 a0_0, .int .i64 a0_1]) (t := 28) ?hr ?_; (case hd => rfl); (case hg => rfl); (case hr => exact tH); intro gb308 hg w7 hbox hb; refine qM4 (bQT tB hb) hbox (tZ w hg) (tZ w hg) ?_; clear HB; intro HB BK308 GW308 GE308; clear hb hbox hg; have hcz8_0 : w7.cell? ⟨gb308, 0, none⟩ = some (.int .i64 a0_0) := (kQC BK308.out 0).trans rfl; have hcz8_1 : w7.cell? ⟨gb308, 1, none⟩ = some (.int .i64 a0_1) := (kQC BK308.out 1).trans rfl; have hfz8_0 := kQF BK308.out 0; have hfz8_1 := kQF BK308.out 1) | ((with_reducible refine gQc (f := 41) rfl ?_); refine goesL_ (some 12) rfl rfl Try.func41 (by kernel_rfl) rfl #[.agg #[.int .i64 a0_0, .int .i64 a0_1], .int .i64 a1, .slice A2 l2.length c2] rfl tL ?_; (with_reducible refine (spec_l04Rows.calls k a0_0 a0_1 a1 _ _ l2 t309 _ ?s1 ?s2 A4.out).mono ?_); (case s1 => exact tC ((Kd.C_below HR2.out HB.out))); (case s2 => exact HC2.out); rintro e w9 ⟨rfl, hb⟩; refine ⟨_, rfl, ?_⟩; refine qM2 (tQ BK308.out hb) (bQT tB hb) ?_; clear BK308 HB; intro BK308 HB; (try clear hb); (try clear hb2); (try clear hk); (try clear hi); have hcz10_0 : w9.cell? ⟨gb308, 0, none⟩ = some (.int .i64 a0_0) := (kQC BK308.out 0).trans rfl; have hcz10_1 : w9.cell? ⟨gb308, 1, none⟩ = some (.int .i64 a0_1) := (kQC BK308.out 1).trans rfl; have hfz10_0 := kQF BK308.out 0; have hfz10_1 := kQF BK308.out 1) | ((with_reducible refine gQc (f := 42) rfl ?_); refine goesL_ (some 20) rfl rfl Try.func42 (by kernel_rfl) rfl #[.agg #[.int .i64 a0_0, .int .i64 a0_1], .int .i64 a1, .slice A2 l2.length c2] rfl tL ?_; (with_reducible refine (spec_l04Echelon.calls k a0_0 a0_1 a1 _ _ l2 t310 _ ?s1 ?s2 A6.out).mono ?_); (case s1 => exact tC ((Kd.C_below HR2.out HB.out))); (case s2 => exact HC2.out); rintro e w11 ⟨v311, rfl, ho0, hb⟩; refine ⟨_, rfl, ?_⟩; refine qM3 (Kd.N_lower (Kd.N_mono (ok' := fun k_ => (w.heap.size ≤ k_) ∧ k_ ≠ gb308) ho0 (fun k_ hk_ => ⟨(Nat.le_trans (bQZ tB) hk_), (Kd.freshB (g := gb308) (o := .cells #[.int .i64 a0_0, .int .i64 a0_1] 28 (0, 0)) (tG BK308.out) k_ hk_)⟩)) (bQZ tB)) (tQ BK308.out hb) (bQT tB hb) ?_; clear BK308 HB; intro HO312 BK308 HB; (try clear hb); (try clear hb2); (try clear hk); (try clear hi); (try clear ho0)))
  go_ret2
  exact ⟨_, tE, by (with_reducible repeat (first | apply Kd.N_alloc | apply Kd.N_drewN | apply Kd.N_drew)); exact Kd.N_mono HO312.out (fun _ hk => hk.1), tB⟩
 rw [if_neg c5] at H
 have c5b0 := beq_eq_false_iff_ne.mpr c5
 have c5b1 := bne_iff_ne.mpr c5
 obtain ⟨y313, hy313⟩ : ∃ y_ : List (List Int), y_ = (([] : List (List Int))) := ⟨_, rfl⟩
 replace H : (some (y313, t309)) = some (r1, r2) := by first | (rw [hy313]; with_reducible exact H) | (have H2_ := (Option.bind_some _ _).symm.trans H; rw [hy313]; with_reducible exact H2_) | (have H2_ := (Option.bind_some _ _).symm.trans H; with_reducible exact H2_) | with_reducible exact H | (rw [hy313]; exact H) | exact H
 have Ny313 := Aq.mk hy313
 clear hy313
 simp only [Option.some.injEq, Prod.mk.injEq] at H
 obtain ⟨rfl, rfl⟩ := H
 go_enter Try.func14, Try.ntmps14
 go_wp2_with (first | ((with_reducible refine gQd (N := 3) rfl ?_); refine xQe ?hg (N := 3) ?hd (cs := #[.int .i64 a0_0, .int .i64 a0_1]) (t := 28) ?hr ?_; (case hd => rfl); (case hg => rfl); (case hr => exact tH); intro gb308 hg w12 hbox hb; refine qM4 (bQT tB hb) hbox (tZ w hg) (tZ w hg) ?_; clear HB; intro HB BK308 GW308 GE308; clear hb hbox hg; have hcz13_0 : w12.cell? ⟨gb308, 0, none⟩ = some (.int .i64 a0_0) := (kQC BK308.out 0).trans rfl; have hcz13_1 : w12.cell? ⟨gb308, 1, none⟩ = some (.int .i64 a0_1) := (kQC BK308.out 1).trans rfl; have hfz13_0 := kQF BK308.out 0; have hfz13_1 := kQF BK308.out 1) | ((with_reducible refine gQc (f := 41) rfl ?_); refine goesL_ (some 12) rfl rfl Try.func41 (by kernel_rfl) rfl #[.agg #[.int .i64 a0_0, .int .i64 a0_1], .int .i64 a1, .slice A2 l2.length c2] rfl tL ?_; (with_reducible refine (spec_l04Rows.calls k a0_0 a0_1 a1 _ _ l2 t309 _ ?s1 ?s2 A4.out).mono ?_); (case s1 => exact tC ((Kd.C_below HR2.out HB.out))); (case s2 => exact HC2.out); rintro e w14 ⟨rfl, hb⟩; refine ⟨_, rfl, ?_⟩; refine qM2 (tQ BK308.out hb) (bQT tB hb) ?_; clear BK308 HB; intro BK308 HB; (try clear hb); (try clear hb2); (try clear hk); (try clear hi)) | ((with_reducible refine gQd (N := 15) rfl ?_); refine Kd.N_lit (Kd.slice 2 (Kd.int .i64)) _ 38 ?hg (N' := 15) ?hd (xs := ([] : List (List Int))) (inner := []) (ok := (fun k_ => (w.heap.size ≤ k_) ∧ k_ ≠ gb308)) (okp := (fun k_ => (w.heap.size ≤ k_) ∧ k_ ≠ gb308)) ?hr ?hp (fun _ hk => hk) ((show ∀ k_, w14.heap.size ≤ k_ → (fun k_ => (w.heap.size ≤ k_) ∧ k_ ≠ gb308) k_ from fun k_ hk => ⟨(Nat.le_trans (bQZ tB) hk), Kd.freshB (g := gb308) (o := .cells #[.int .i64 a0_0, .int .i64 a0_1] 28 (0, 0)) (tG BK308.out) k_ hk⟩) _ (Nat.le_refl _)) (Below.refl _ _) (Nat.le_refl _) (by simp) ?_; (case hd => rfl); (case hg => rfl); (case hr => exact tH); (case hp => exact (Reps.none _ _)); intro v314 w15 ho16 hb hg_ hnew_; clear hg_ hnew_; (first | rw [← Ny313.out] at ho16 | (simp only [Int.reduceToNat] at ho16; rw [← Ny313.out] at ho16)); refine qM3 (Kd.N_lower ho16 (bQZ tB)) (tQ BK308.out hb) (bQT tB hb) ?_; clear BK308 HB; intro HO315 BK308 HB; clear hb ho16))
 go_ret2
 exact ⟨_, tE, by (with_reducible repeat (first | apply Kd.N_alloc | apply Kd.N_drewN | apply Kd.N_drew)); exact Kd.N_mono HO315.out (fun _ hk => hk.1), tB⟩
def laws_heldInt64SS.l0 : Nat → List (List Int) → Int → Int → Option (Int)
  | 0, _, _, _ => none
  | k + 1, x0, x1, x5 => if x5 < (x0.length : Int) then (if 0 ≤ x5 then ((laws_heldInt64S.f k (rd_L1 x0 x5) x1).bind fun t319 => (if t319 < 0 then (some (-1)) else (laws_heldInt64SS.l0 k x0 t319 (wrap64 (x5 + 1))))) else (none)) else (some x1)
def laws_heldInt64SS.f (k : Nat) (l0 : List (List Int)) (a1 : Int) : Option (Int) := laws_heldInt64SS.l0 k l0 a1 0
theorem laws_heldInt64SS.mono_l : ∀ k, (∀ y0 y1 y2, LeO (laws_heldInt64SS.l0 k y0 y1 y2) (laws_heldInt64SS.l0 (k + 1) y0 y1 y2))
 | 0 => fun _ _ _ r h => by simp [laws_heldInt64SS.l0] at h
 | k + 1 => by
  have ih0 := laws_heldInt64SS.mono_l k
  ·intro y0 y1 y2
   unfold laws_heldInt64SS.l0
   repeat' first
   | (with_reducible first | apply ih0 | apply laws_heldInt64S.mono | exact LeO.refl _ | exact LeO.none _ | refine LeO.ite ?_ ?_ | refine LeO.bind ?_ (fun _ => ?_))
   | exact LeO.none _
   | refine LeO.ite ?_ ?_
   | refine LeO.bind ?_ (fun _ => ?_)
theorem laws_heldInt64SS.mono : ∀ a0 a1 k, LeO (laws_heldInt64SS.f k a0 a1) (laws_heldInt64SS.f (k + 1) a0 a1) := by
 intro a0 a1 k
 have ih0 := laws_heldInt64SS.mono_l k
 unfold laws_heldInt64SS.f
 repeat' first
  | (with_reducible first | apply ih0 | apply laws_heldInt64S.mono | exact LeO.refl _ | exact LeO.none _ | refine LeO.ite ?_ ?_ | refine LeO.bind ?_ (fun _ => ?_))
  | exact LeO.none _
  | refine LeO.ite ?_ ?_
  | refine LeO.bind ?_ (fun _ => ?_)
theorem laws_heldInt64SS.calls (k : Nat) (A0 : Option Addr) (c0 : Nat) (l0 : List (List Int)) (a1 : Int) (r : Int) (w : World) (hr0 : Kd.C (Kd.slice 2 (Kd.int .i64)) w A0 l0.length l0) (hc0 : l0.length ≤ c0) (h : laws_heldInt64SS.f k l0 a1 = some r) :
 Calls Try.prog 17 #[.slice A0 l0.length c0, .int .i64 a1] w fun e w' => e = .returned (.int .i64 r) ∧ Dq w w' := by
 have HR0 := Aq.mk hr0
 have HC0 := Aq.mk hc0
 clear hr0 hc0
 have H : (laws_heldInt64SS.l0 k l0 a1 0) = some r := h
 clear h
 replace H' := Aq.mk H
 clear H
 go_enter Try.func17, Try.ntmps17
 go_wp2
 go_loopg [1, 5] k (fun kq v1 v5 w' => ∃ (x1_1 : Int) (x5_1 : Int), v1 = .int .i64 x1_1 ∧ v5 = .int .i64 x5_1 ∧ Aq (laws_heldInt64SS.l0 kq l0 x1_1 x5_1 = some r) ∧ Aq (kq ≤ k) ∧ Dq w w')
 case atStart => exact ⟨(a1), (0), tS, tS, H', ⟨Nat.le_refl _⟩, tD⟩
 clear H'
 obtain ⟨x1_1, x5_1, rfl, rfl, HA, HK1, ⟨m1, rfl⟩⟩ := hrel
 cases gk with
 | zero => exact absurd HA.out (by simp [laws_heldInt64SS.l0])
 | succ k1 =>
  have H := HA.out
  clear HA
  simp only [laws_heldInt64SS.l0] at H
  by_cases c3 : x5_1 < (l0.length : Int)
  rotate_left
  ·rw [if_neg c3] at H
   have c3b0 := decide_eq_false c3
   clear c3
   obtain rfl := Option.some.inj H
   go_wp2
   go_ret
   exact ⟨tS, tD⟩
  rw [if_pos c3] at H
  have c3b0 := decide_eq_true c3
  clear c3
  by_cases c4 : 0 ≤ x5_1
  rotate_left
  ·rw [if_neg c4] at H
   exact absurd H (by simp)
  rw [if_pos c4] at H
  have c4b0 := decide_eq_true c4
  clear c4
  obtain ⟨t319, A5, H⟩ := qBd H
  by_cases c6 : t319 < 0
  ·rw [if_pos c6] at H
   have c6b0 := decide_eq_true c6
   clear c6
   obtain rfl := Option.some.inj H
   have p318 : 0 ≤ (x5_1 : Int) := of_decide_eq_true tA
   have q318 : x5_1 < (l0.length : Int) := of_decide_eq_true tA
   obtain ⟨ad318, A318_0, c318_0, e318, hx318_0, hl318_0, hi318_0⟩ := at_L1 HR0.out x5_1 p318 q318
   cases e318
   have HR318_0 := Aq.mk hi318_0
   have HC318_0 := Aq.mk hl318_0
   clear hi318_0 hl318_0
   replace p318 := eq_true p318
   replace q318 := eq_true q318
   go_wp2_with (first | ((with_reducible refine gQc (f := 26) rfl ?_); refine goesL_ (some 17) rfl rfl Try.func26 (by kernel_rfl) rfl #[.slice A318_0 (rd_L1 l0 x5_1).length c318_0, .int .i64 x1_1] rfl tL ?_; (with_reducible refine (laws_heldInt64S.calls k1 _ _ (rd_L1 l0 x5_1) x1_1 t319 _ ?s1 ?s2 A5.out).mono ?_); (case s1 => exact tC HR318_0.out); (case s2 => exact HC318_0.out); rintro e w' ⟨rfl, ⟨nd, rfl⟩⟩; refine ⟨_, rfl, ?_⟩))
   go_ret
   exact ⟨tS, tD⟩
  rw [if_neg c6] at H
  have c6b0 := decide_eq_false c6
  clear c6
  replace H' := Aq.mk H
  clear H
  have p318 : 0 ≤ (x5_1 : Int) := of_decide_eq_true tA
  have q318 : x5_1 < (l0.length : Int) := of_decide_eq_true tA
  obtain ⟨ad318, A318_0, c318_0, e318, hx318_0, hl318_0, hi318_0⟩ := at_L1 HR0.out x5_1 p318 q318
  cases e318
  have HR318_0 := Aq.mk hi318_0
  have HC318_0 := Aq.mk hl318_0
  clear hi318_0 hl318_0
  replace p318 := eq_true p318
  replace q318 := eq_true q318
  go_wp2_with (first | ((with_reducible refine gQc (f := 26) rfl ?_); refine goesL_ (some 17) rfl rfl Try.func26 (by kernel_rfl) rfl #[.slice A318_0 (rd_L1 l0 x5_1).length c318_0, .int .i64 x1_1] rfl tL ?_; (with_reducible refine (laws_heldInt64S.calls k1 _ _ (rd_L1 l0 x5_1) x1_1 t319 _ ?s1 ?s2 A5.out).mono ?_); (case s1 => exact tC HR318_0.out); (case s2 => exact HC318_0.out); rintro e w' ⟨rfl, ⟨nd, rfl⟩⟩; refine ⟨_, rfl, ?_⟩))
  go_roundg k1
  case measure => have := HK1.out; omega
  case rel => exact ⟨(t319), (wrap64 (x5_1 + 1)), tS, tS, H', ⟨by have := HK1.out; omega⟩, tD⟩
end Go.Proofs.Ytbalkaphibnpcaa.P
