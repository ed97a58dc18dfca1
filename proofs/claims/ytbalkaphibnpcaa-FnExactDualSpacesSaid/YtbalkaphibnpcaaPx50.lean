/- Functions of the program and what they tell, as the printing program wrote it. -/
import Derived.Test.YtbalkaphibnpcaaPx0
import Derived.Test.YtbalkaphibnpcaaPx18
import Derived.Test.YtbalkaphibnpcaaPx22
import Derived.Test.YtbalkaphibnpcaaPx27
import Derived.Test.YtbalkaphibnpcaaPx38
import Derived.Test.YtbalkaphibnpcaaPx41
namespace Go.Proofs.Ytbalkaphibnpcaa.P
open Go.Shelf Go.RowKit Go.Proofs.YtbalkaphibnpcaaW.PrintWords Go.Proofs.YtbalkaphibnpcaaW.PrintLast Go.Proofs.YtbalkaphibnpcaaW.PrintMore
attribute [local go_sem] max2_int min2_int max_two min_two max_three min_three max_four min_four
set_option linter.unusedVariables false
set_option linter.unusedSimpArgs false
set_option maxHeartbeats 8000000
set_option maxRecDepth 100000
theorem ghost3 {α β : Type} {d : Kd α} {d' : Kd β} {e e' b b6 : Nat} {W w' : World} {ok ok6 : Nat → Prop} {v v6 : Value} {xs : List α} {ys : List β} (h4 : Kd.S d e w' W.heap.size ok v xs) (hb : Below W.heap.size W w') (h6 : Kd.S d' e' W b6 ok6 v6 ys) (hl : b ≤ W.heap.size) :
 ∃ n3, n3 ≤ w'.heap.size ∧ Kd.S d' e' w' b6 (fun k => k < n3) v6 ys ∧ Kd.S d e w' b (fun k => n3 ≤ k ∧ k < w'.heap.size) v xs :=
 ⟨W.heap.size, hb.size, Kd.S_below (Kd.S_mono (Kd.S_bound h6) (fun _ hk => hk.2.2.1)) hb, Kd.S_lower (Kd.S_mono (Kd.S_bound h4) (fun _ hk => ⟨hk.2.1, hk.2.2.1⟩)) hl⟩
mutual
def laws_FnExactDualSpaces.j0 : Nat → List (S59) → List (S63) → Int → List (S63) → List (S63) → Int → Bool → Option (Bool)
  | 0, _, _, _, _, _, _, _ => none
  | k + 1, x0, x4, x5, x6, x7, x8, x40 => if x40 = true then (some false) else ((laws_toMatrixS.f k x0).bind fun t737 => ((laws_eqMatrixS.f k x6 t737).bind fun t740 => (if t740 = true then ((laws_markMatrixS.f k x6 1).bind fun bt741 => (if bt741.1 < 0 then (laws_FnExactDualSpaces.j1 k x0 x4 x5 x7 true) else ((laws_eqMatrixS.f k x7 x4).bind fun t742 => (if t742 = true then (laws_FnExactDualSpaces.j1 k x0 x4 x5 x7 (x8 != x5)) else (laws_FnExactDualSpaces.j1 k x0 x4 x5 x7 true))))) else (some false))))
def laws_FnExactDualSpaces.j1 : Nat → List (S59) → List (S63) → Int → List (S63) → Bool → Option (Bool)
  | 0, _, _, _, _, _ => none
  | k + 1, x0, x4, x5, x7, x61 => if x61 = true then (some false) else ((laws_markMatrixS.f k x7 1).bind fun bt743 => ((laws_heldMatrixS.f k bt743.2 1).bind fun t744 => (if t744 < 0 then (some false) else (if t744 = bt743.1 then ((laws_toMatrixS.f k x0).bind fun t745 => ((impl_DualSpaces.f k t745).bind fun bt748 => ((laws_eqMatrixS.f k bt748.1 x4).bind fun t752 => (if t752 = true then (laws_FnExactDualSpaces.j2 k bt743.2 bt743.1 (bt748.2 != x5)) else (laws_FnExactDualSpaces.j2 k bt743.2 bt743.1 true))))) else (some false)))))
def laws_FnExactDualSpaces.j2 : Nat → List (S63) → Int → Bool → Option (Bool)
  | 0, _, _, _ => none
  | k + 1, x7, x10, x87 => if x87 = true then (some false) else ((laws_heldMatrixS.f k x7 1).bind fun t753 => (if t753 < 0 then (some false) else (if t753 = x10 then (some true) else (some false))))
end
def laws_FnExactDualSpaces.f (k : Nat) (l0 : List (S59)) : Option (Bool) := (laws_szMatrixS.f k l0 1048576).bind fun t721 => (if t721 < 0 then (some true) else ((laws_toMatrixS.f k l0).bind fun t722 => ((spec_DualSpaces.f k t722).bind fun bt725 => ((laws_toMatrixS.f k l0).bind fun t729 => ((impl_DualSpaces.f k t729).bind fun bt732 => ((laws_eqMatrixS.f k bt732.1 bt725.1).bind fun t736 => (if t736 = true then (laws_FnExactDualSpaces.j0 k l0 bt725.1 bt725.2 t729 bt732.1 bt732.2 (bt732.2 != bt725.2)) else (laws_FnExactDualSpaces.j0 k l0 bt725.1 bt725.2 t729 bt732.1 bt732.2 true))))))))
theorem laws_FnExactDualSpaces.mono_l : ∀ k, (∀ y0 y1 y2 y3 y4 y5 y6, LeO (laws_FnExactDualSpaces.j0 k y0 y1 y2 y3 y4 y5 y6) (laws_FnExactDualSpaces.j0 (k + 1) y0 y1 y2 y3 y4 y5 y6)) ∧ (∀ y0 y1 y2 y3 y4, LeO (laws_FnExactDualSpaces.j1 k y0 y1 y2 y3 y4) (laws_FnExactDualSpaces.j1 (k + 1) y0 y1 y2 y3 y4)) ∧ (∀ y0 y1 y2, LeO (laws_FnExactDualSpaces.j2 k y0 y1 y2) (laws_FnExactDualSpaces.j2 (k + 1) y0 y1 y2))
 | 0 => ⟨fun _ _ _ _ _ _ _ r h => by simp [laws_FnExactDualSpaces.j0] at h, fun _ _ _ _ _ r h => by simp [laws_FnExactDualSpaces.j1] at h, fun _ _ _ r h => by simp [laws_FnExactDualSpaces.j2] at h⟩
 | k + 1 => by
  obtain ⟨ih0, ih1, ih2⟩ := laws_FnExactDualSpaces.mono_l k
  refine ⟨?_, ?_, ?_⟩ <;> intros <;> first | unfold laws_FnExactDualSpaces.j0 | unfold laws_FnExactDualSpaces.j1 | unfold laws_FnExactDualSpaces.j2
  all_goals repeat' first
   | (with_reducible first | apply ih0 | apply ih1 | apply ih2 | apply impl_DualSpaces.mono | apply laws_eqMatrixS.mono | apply laws_heldMatrixS.mono | apply laws_markMatrixS.mono | apply laws_szMatrixS.mono | apply laws_toMatrixS.mono | apply spec_DualSpaces.mono | exact LeO.refl _ | exact LeO.none _ | refine LeO.ite ?_ ?_ | refine LeO.bind ?_ (fun _ => ?_))
   | exact LeO.none _
   | refine LeO.ite ?_ ?_
   | refine LeO.bind ?_ (fun _ => ?_)
theorem laws_FnExactDualSpaces.mono : ∀ a0 k, LeO (laws_FnExactDualSpaces.f k a0) (laws_FnExactDualSpaces.f (k + 1) a0) := by
 intro a0 k
 obtain ⟨ih0, ih1, ih2⟩ := laws_FnExactDualSpaces.mono_l k
 unfold laws_FnExactDualSpaces.f
 repeat' first
  | (with_reducible first | apply ih0 | apply ih1 | apply ih2 | apply impl_DualSpaces.mono | apply laws_eqMatrixS.mono | apply laws_heldMatrixS.mono | apply laws_markMatrixS.mono | apply laws_szMatrixS.mono | apply laws_toMatrixS.mono | apply spec_DualSpaces.mono | exact LeO.refl _ | exact LeO.none _ | refine LeO.ite ?_ ?_ | refine LeO.bind ?_ (fun _ => ?_))
  | exact LeO.none _
  | refine LeO.ite ?_ ?_
  | refine LeO.bind ?_ (fun _ => ?_)
theorem laws_FnExactDualSpaces.calls (k : Nat) (A0 : Option Addr) (c0 : Nat) (l0 : List (S59)) (r : Bool) (w : World) (hr0 : Kd.C k59 w A0 l0.length l0) (hc0 : l0.length ≤ c0) (h : laws_FnExactDualSpaces.f k l0 = some r) :
 Calls Try.prog 6 #[.slice A0 l0.length c0] w fun e w' => e = .returned (.bool r) ∧ Below w.heap.size w w' := by
 have HR0 := Aq.mk hr0
 have HC0 := Aq.mk hc0
 clear hr0 hc0
 have HB := Aq.mk (Below.refl w.heap.size w)
 have H : ((laws_szMatrixS.f k l0 1048576).bind fun t721 => (if t721 < 0 then (some true) else ((laws_toMatrixS.f k l0).bind fun t722 => ((spec_DualSpaces.f k t722).bind fun bt725 => ((laws_toMatrixS.f k l0).bind fun t729 => ((impl_DualSpaces.f k t729).bind fun bt732 => ((laws_eqMatrixS.f k bt732.1 bt725.1).bind fun t736 => (if t736 = true then (laws_FnExactDualSpaces.j0 k l0 bt725.1 bt725.2 t729 bt732.1 bt732.2 (bt732.2 != bt725.2)) else (laws_FnExactDualSpaces.j0 k l0 bt725.1 bt725.2 t729 bt732.1 bt732.2 true))))))))) = some r := h
 clear h
 obtain ⟨t721, A2, H⟩ := qBd H
 by_cases c3 : t721 < 0
 ·rw [if_pos c3] at H
  have c3b0 := decide_eq_true c3
  clear c3
  obtain rfl := Option.some.inj H
  go_enter Try.func6, Try.ntmps6
  go_wp2_with (first | ((with_reducible refine gQc (f := 27) rfl ?_); refine goesL_ (some 16) rfl rfl Try.func27 (by kernel_rfl) rfl #[.slice A0 l0.length c0, .int .i64 1048576] rfl tL ?_; (with_reducible refine (laws_szMatrixS.calls k _ _ l0 1048576 t721 _ ?s1 ?s2 A2.out).mono ?_); (case s1 => exact tC HR0.out); (case s2 => exact HC0.out); rintro e w4 ⟨rfl, hb⟩; refine ⟨_, rfl, ?_⟩; refine qM1 (bQT tB hb) ?_; clear HB; intro HB; (try clear hb); (try clear hb2); (try clear hk); (try clear hi)))
  go_ret
  exact ⟨tE, tB⟩
 rw [if_neg c3] at H
 have c3b0 := decide_eq_false c3
 clear c3
 obtain ⟨t722, A5, H⟩ := qBd H
 obtain ⟨⟨t725, t726⟩, A6, H⟩ := qBd H
 (try dsimp only at H)
 obtain ⟨t729, A7, H⟩ := qBd H
 obtain ⟨⟨t732, t733⟩, A8, H⟩ := qBd H
 (try dsimp only at H)
 have HC9 := Aq.mk H
 clear H
 go_enter Try.func6, Try.ntmps6
 go_upto_region 8 with (first | ((with_reducible refine gQc (f := 27) rfl ?_); refine goesL_ (some 16) rfl rfl Try.func27 (by kernel_rfl) rfl #[.slice A0 l0.length c0, .int .i64 1048576] rfl tL ?_; (with_reducible refine (laws_szMatrixS.calls k _ _ l0 1048576 t721 _ ?s1 ?s2 A2.out).mono ?_); (case s1 => exact tC HR0.out); (case s2 => exact HC0.out); rintro e w10 ⟨rfl, hb⟩; refine ⟨_, rfl, ?_⟩; refine qM1 (bQT tB hb) ?_; clear HB; intro HB; (try clear hb); (try clear hb2); (try clear hk); (try clear hi)) | ((with_reducible refine gQc (f := 29) rfl ?_); refine goesL_ (some 21) rfl rfl Try.func29 (by kernel_rfl) rfl #[.slice A0 l0.length c0] rfl tL ?_; (with_reducible refine (laws_toMatrixS.calls k _ _ l0 t722 _ ?s1 ?s2 A5.out).mono ?_); (case s1 => exact tC ((Kd.C_below HR0.out HB.out))); (case s2 => exact HC0.out); rintro e w11 ⟨v723, rfl, ho0, hb⟩; refine ⟨_, rfl, ?_⟩; refine qM2 (Kd.S_lower ho0 (bQZ tB)) (bQT tB hb) ?_; clear HB; intro HO724 HB; (try clear hb); (try clear hb2); (try clear hk); (try clear hi); (try clear ho0); obtain ⟨Ao12, co12, eo12⟩ := Kd.S_slice HO724.out; subst eo12) | ((with_reducible refine gQc (f := 28) rfl ?_); refine goesL_ (some 22) rfl rfl Try.func28 (by kernel_rfl) rfl #[.slice Ao12 t722.length co12] rfl tL ?_; (with_reducible refine (spec_DualSpaces.calls k _ _ t722 t725 t726 _ ?s1 ?s2 A6.out).mono ?_); (case s1 => exact tC ((Kd.S_reads' HO724.out).2.2)); (case s2 => exact (Kd.S_reads' HO724.out).2.1); rintro e w13 ⟨v727, rfl, ho0, hb⟩; refine ⟨_, rfl, ?_⟩; refine qM3 (Kd.S_elder' (by (with_reducible repeat (first | apply Kd.S_alloc | apply Kd.S_drewN | apply Kd.S_drew)); exact HO724.out) (Kd.S_base ho0) hb) (Kd.S_lower (Kd.S_new' ho0 (Kd.S_lt (by (with_reducible repeat (first | apply Kd.S_alloc | apply Kd.S_drewN | apply Kd.S_drew)); exact HO724.out))) (bQZ tB)) (bQT tB hb) ?_; clear HO724 HB; intro HO724 HO728 HB; (try clear hb); (try clear hb2); (try clear hk); (try clear hi); (try clear ho0)) | ((with_reducible refine gQc (f := 29) rfl ?_); refine goesL_ (some 26) rfl rfl Try.func29 (by kernel_rfl) rfl #[.slice A0 l0.length c0] rfl tL ?_; (with_reducible refine (laws_toMatrixS.calls k _ _ l0 t729 _ ?s1 ?s2 A7.out).mono ?_); (case s1 => exact tC ((Kd.C_below HR0.out HB.out))); (case s2 => exact HC0.out); rintro e w14 ⟨v730, rfl, ho0, hb⟩; refine ⟨_, rfl, ?_⟩; obtain ⟨n3, hn3, gs6, gs4⟩ := ghost3 (b := w.heap.size) ho0 hb (by (with_reducible repeat (first | apply Kd.S_alloc | apply Kd.S_drewN | apply Kd.S_drew)); exact HO728.out) (bQZ tB); have n0_ := Aq.mk (Kd.S_elder' (by (with_reducible repeat (first | apply Kd.S_alloc | apply Kd.S_drewN | apply Kd.S_drew)); exact HO724.out) (Kd.S_base ho0) hb); have n1_ := Aq.mk gs6; have n2_ := Aq.mk gs4; have gb4 := Below.refl w14.heap.size w14; have GB4 := Aq.mk gb4; have HN3 := Aq.mk hn3; clear hn3 gs6 gs4 gb4; have n3_ := Aq.mk (bQT tB hb); clear HO724; clear HO728; clear HB; have HO724 := n0_; have HO728 := n1_; have HO731 := n2_; have HB := n3_; clear n0_ n1_ n2_ n3_; (try clear hb); (try clear hb2); (try clear hk); (try clear hi); (try clear ho0); obtain ⟨Ao15, co15, eo15⟩ := Kd.S_slice HO731.out; subst eo15) | ((with_reducible refine gQc (f := 30) rfl ?_); refine goesL_ (some 29) rfl rfl Try.func30 (by kernel_rfl) rfl #[.slice Ao15 t729.length co15] rfl tL ?_; (with_reducible refine (impl_DualSpaces.calls k _ _ t729 t732 t733 _ ?s1 ?s2 A8.out).mono ?_); (case s1 => exact tC ((Kd.S_reads' HO731.out).2.2)); (case s2 => exact (Kd.S_reads' HO731.out).2.1); rintro e w16 ⟨v734, rfl, ho0, hb⟩; refine ⟨_, rfl, ?_⟩; refine qM5 (Kd.S_elder' (by (with_reducible repeat (first | apply Kd.S_alloc | apply Kd.S_drewN | apply Kd.S_drew)); exact HO724.out) (Kd.S_base ho0) hb) (Kd.S_below (by (with_reducible repeat (first | apply Kd.S_alloc | apply Kd.S_drewN | apply Kd.S_drew)); exact HO728.out) hb) (Kd.S_below (by (with_reducible repeat (first | apply Kd.S_alloc | apply Kd.S_drewN | apply Kd.S_drew)); exact HO731.out) hb) (Kd.S_lower (Kd.S_mono (Kd.S_bound ho0) (ok' := (fun k_ => w14.heap.size ≤ k_)) (fun k_ hk_ => Nat.le_trans (bQZ (by repeat (first | (with_reducible first | exact GB4.out | apply bQA | apply bQN | apply bQ1) | exact GB4.out))) hk_.2.1)) (bQZ tB)) (bQT tB hb) ?_; clear HO724 HO728 HO731 HB; intro HO724 HO728 HO731 HO735 HB; (try clear hb); (try clear hb2); (try clear hk); (try clear hi); (try clear ho0)))
 (try simp only [Act.put, qSa, qSb, qSc])
 go_cut [40] (fun v40 wc => ∃ (kq : Nat) (x40_8 : Bool), v40 = .bool x40_8 ∧ Aq (laws_FnExactDualSpaces.j0 kq l0 t725 t726 t729 t732 t733 x40_8 = some r) ∧ Aq (kq ≤ k) ∧ Aq (Kd.S k63 63 wc w.heap.size (fun k_ => k_ < n3) v727 t725) ∧ Aq (Kd.S k63 63 wc w.heap.size (fun k_ => n3 ≤ k_ ∧ k_ < w14.heap.size) (.slice Ao15 t729.length co15) t729) ∧ Aq (Kd.S k63 63 wc w.heap.size (fun k_ => w14.heap.size ≤ k_) v734 t732) ∧ Aq (Below w.heap.size w wc))
 case first =>
  have H := HC9.out
  clear HC9
  obtain ⟨t736, A17, H⟩ := qBd H
  by_cases c18 : t736 = true
  ·subst c18
   rw [if_pos rfl] at H
   replace H' := Aq.mk H
   clear H
   obtain ⟨Ao19, co19, eo19⟩ := Kd.S_slice HO735.out
   subst eo19
   obtain ⟨Ao20, co20, eo20⟩ := Kd.S_slice HO728.out
   subst eo20
   go_wp2_with (first | ((with_reducible refine gQc (f := 31) rfl ?_); refine goesL_ (some 34) rfl rfl Try.func31 (by kernel_rfl) rfl #[.slice Ao19 t732.length co19, .slice Ao20 t725.length co20] rfl tL ?_; (with_reducible refine (laws_eqMatrixS.calls k _ _ t732 _ _ t725 true _ ?s1 ?s2 ?s3 ?s4 A17.out).mono ?_); (case s1 => exact tC ((Kd.S_reads' HO735.out).2.2)); (case s2 => exact (Kd.S_reads' HO735.out).2.1); (case s3 => exact tC ((Kd.S_reads' HO728.out).2.2)); (case s4 => exact (Kd.S_reads' HO728.out).2.1); rintro e w21 ⟨rfl, hb⟩; refine ⟨_, rfl, ?_⟩; refine qM5 (Kd.S_below (by (with_reducible repeat (first | apply Kd.S_alloc | apply Kd.S_drewN | apply Kd.S_drew)); exact HO724.out) hb) (Kd.S_below (by (with_reducible repeat (first | apply Kd.S_alloc | apply Kd.S_drewN | apply Kd.S_drew)); exact HO728.out) hb) (Kd.S_below (by (with_reducible repeat (first | apply Kd.S_alloc | apply Kd.S_drewN | apply Kd.S_drew)); exact HO731.out) hb) (Kd.S_below (by (with_reducible repeat (first | apply Kd.S_alloc | apply Kd.S_drewN | apply Kd.S_drew)); exact HO735.out) hb) (bQT tB hb) ?_; clear HO724 HO728 HO731 HO735 HB; intro HO724 HO728 HO731 HO735 HB; (try clear hb); (try clear hb2); (try clear hk); (try clear hi)))
   go_meet
   case rel => exact ⟨_, ((t733 != t726)), tS, H', ⟨tO⟩, ⟨by (with_reducible repeat (first | apply Kd.S_alloc | apply Kd.S_drewN | apply Kd.S_drew)); exact HO728.out⟩, ⟨by (with_reducible repeat (first | apply Kd.S_alloc | apply Kd.S_drewN | apply Kd.S_drew)); exact HO731.out⟩, ⟨by (with_reducible repeat (first | apply Kd.S_alloc | apply Kd.S_drewN | apply Kd.S_drew)); exact HO735.out⟩, ⟨tB⟩⟩
  replace c18 := Bool.eq_false_iff.mpr c18
  subst c18
  rw [if_neg (show ¬ (false = true) by decide)] at H
  replace H' := Aq.mk H
  clear H
  obtain ⟨Ao22, co22, eo22⟩ := Kd.S_slice HO735.out
  subst eo22
  obtain ⟨Ao23, co23, eo23⟩ := Kd.S_slice HO728.out
  subst eo23
  go_wp2_with (first | ((with_reducible refine gQc (f := 31) rfl ?_); refine goesL_ (some 34) rfl rfl Try.func31 (by kernel_rfl) rfl #[.slice Ao22 t732.length co22, .slice Ao23 t725.length co23] rfl tL ?_; (with_reducible refine (laws_eqMatrixS.calls k _ _ t732 _ _ t725 false _ ?s1 ?s2 ?s3 ?s4 A17.out).mono ?_); (case s1 => exact tC ((Kd.S_reads' HO735.out).2.2)); (case s2 => exact (Kd.S_reads' HO735.out).2.1); (case s3 => exact tC ((Kd.S_reads' HO728.out).2.2)); (case s4 => exact (Kd.S_reads' HO728.out).2.1); rintro e w24 ⟨rfl, hb⟩; refine ⟨_, rfl, ?_⟩; refine qM5 (Kd.S_below (by (with_reducible repeat (first | apply Kd.S_alloc | apply Kd.S_drewN | apply Kd.S_drew)); exact HO724.out) hb) (Kd.S_below (by (with_reducible repeat (first | apply Kd.S_alloc | apply Kd.S_drewN | apply Kd.S_drew)); exact HO728.out) hb) (Kd.S_below (by (with_reducible repeat (first | apply Kd.S_alloc | apply Kd.S_drewN | apply Kd.S_drew)); exact HO731.out) hb) (Kd.S_below (by (with_reducible repeat (first | apply Kd.S_alloc | apply Kd.S_drewN | apply Kd.S_drew)); exact HO735.out) hb) (bQT tB hb) ?_; clear HO724 HO728 HO731 HO735 HB; intro HO724 HO728 HO731 HO735 HB; (try clear hb); (try clear hb2); (try clear hk); (try clear hi)))
  go_meet
  case rel => exact ⟨_, (true), tS, H', ⟨tO⟩, ⟨by (with_reducible repeat (first | apply Kd.S_alloc | apply Kd.S_drewN | apply Kd.S_drew)); exact HO728.out⟩, ⟨by (with_reducible repeat (first | apply Kd.S_alloc | apply Kd.S_drewN | apply Kd.S_drew)); exact HO731.out⟩, ⟨by (with_reducible repeat (first | apply Kd.S_alloc | apply Kd.S_drewN | apply Kd.S_drew)); exact HO735.out⟩, ⟨tB⟩⟩
 clear HC9
 try clear c3
 try clear c3b0
 try clear c18
 obtain ⟨kq, x40_8, rfl, HA, HJ8, HO_4, HO_6, HO_7, HB⟩ := hcut
 cases kq with
 | zero => exact absurd HA.out (by simp [laws_FnExactDualSpaces.j0])
 | succ kj8 =>
  have H := HA.out
  clear HA
  simp only [laws_FnExactDualSpaces.j0] at H
  by_cases c25 : x40_8 = true
  ·subst c25
   rw [if_pos rfl] at H
   obtain rfl := Option.some.inj H
   go_wp2
   go_ret
   exact ⟨tE, tB⟩
  replace c25 := Bool.eq_false_iff.mpr c25
  subst c25
  rw [if_neg (show ¬ (false = true) by decide)] at H
  obtain ⟨t737, A26, H⟩ := qBd H
  obtain ⟨t740, A27, H⟩ := qBd H
  by_cases c28 : t740 = true
  rotate_left
  ·replace c28 := Bool.eq_false_iff.mpr c28
   subst c28
   rw [if_neg (show ¬ (false = true) by decide)] at H
   obtain rfl := Option.some.inj H
   go_wp2_with (first | ((with_reducible refine gQc (f := 29) rfl ?_); refine goesL_ (some 43) rfl rfl Try.func29 (by kernel_rfl) rfl #[.slice A0 l0.length c0] rfl tL ?_; (with_reducible refine (laws_toMatrixS.calls kj8 _ _ l0 t737 _ ?s1 ?s2 A26.out).mono ?_); (case s1 => exact tC ((Kd.C_below HR0.out HB.out))); (case s2 => exact HC0.out); rintro e w73 ⟨v738, rfl, ho0, hb⟩; refine ⟨_, rfl, ?_⟩; refine qM5 (Kd.S_elder' (by (with_reducible repeat (first | apply Kd.S_alloc | apply Kd.S_drewN | apply Kd.S_drew)); exact HO_4.out) (Kd.S_base ho0) hb) (Kd.S_elder' (by (with_reducible repeat (first | apply Kd.S_alloc | apply Kd.S_drewN | apply Kd.S_drew)); exact HO_6.out) (Kd.S_base ho0) hb) (Kd.S_elder' (by (with_reducible repeat (first | apply Kd.S_alloc | apply Kd.S_drewN | apply Kd.S_drew)); exact HO_7.out) (Kd.S_base ho0) hb) (Kd.S_lower (Kd.S_new' (Kd.S_new' (Kd.S_new' ho0 (Kd.S_lt (by (with_reducible repeat (first | apply Kd.S_alloc | apply Kd.S_drewN | apply Kd.S_drew)); exact HO_4.out))) (Kd.S_lt (by (with_reducible repeat (first | apply Kd.S_alloc | apply Kd.S_drewN | apply Kd.S_drew)); exact HO_6.out))) (Kd.S_lt (by (with_reducible repeat (first | apply Kd.S_alloc | apply Kd.S_drewN | apply Kd.S_drew)); exact HO_7.out))) (bQZ tB)) (bQT tB hb) ?_; clear HO_4 HO_6 HO_7 HB; intro HO_4 HO_6 HO_7 HO739 HB; (try clear hb); (try clear hb2); (try clear hk); (try clear hi); (try clear ho0); obtain ⟨Ao74, co74, eo74⟩ := Kd.S_slice HO739.out; subst eo74) | ((with_reducible refine gQc (f := 31) rfl ?_); refine goesL_ (some 44) rfl rfl Try.func31 (by kernel_rfl) rfl #[.slice Ao15 t729.length co15, .slice Ao74 t737.length co74] rfl tL ?_; (with_reducible refine (laws_eqMatrixS.calls kj8 _ _ t729 _ _ t737 false _ ?s1 ?s2 ?s3 ?s4 A27.out).mono ?_); (case s1 => exact tC ((Kd.S_reads' HO_6.out).2.2)); (case s2 => exact (Kd.S_reads' HO_6.out).2.1); (case s3 => exact tC ((Kd.S_reads' HO739.out).2.2)); (case s4 => exact (Kd.S_reads' HO739.out).2.1); rintro e w75 ⟨rfl, hb⟩; refine ⟨_, rfl, ?_⟩; refine qM5 (Kd.S_below (by (with_reducible repeat (first | apply Kd.S_alloc | apply Kd.S_drewN | apply Kd.S_drew)); exact HO_4.out) hb) (Kd.S_below (by (with_reducible repeat (first | apply Kd.S_alloc | apply Kd.S_drewN | apply Kd.S_drew)); exact HO_6.out) hb) (Kd.S_below (by (with_reducible repeat (first | apply Kd.S_alloc | apply Kd.S_drewN | apply Kd.S_drew)); exact HO_7.out) hb) (Kd.S_below (by (with_reducible repeat (first | apply Kd.S_alloc | apply Kd.S_drewN | apply Kd.S_drew)); exact HO739.out) hb) (bQT tB hb) ?_; clear HO_4 HO_6 HO_7 HO739 HB; intro HO_4 HO_6 HO_7 HO739 HB; (try clear hb); (try clear hb2); (try clear hk); (try clear hi)))
   go_ret
   exact ⟨tE, tB⟩
  subst c28
  rw [if_pos rfl] at H
  obtain ⟨⟨t741, tm1⟩, A29, H⟩ := qBd H
  (try dsimp only at H)
  have HC30 := Aq.mk H
  clear H
  go_upto_region 14 with (first | ((with_reducible refine gQc (f := 29) rfl ?_); refine goesL_ (some 43) rfl rfl Try.func29 (by kernel_rfl) rfl #[.slice A0 l0.length c0] rfl tL ?_; (with_reducible refine (laws_toMatrixS.calls kj8 _ _ l0 t737 _ ?s1 ?s2 A26.out).mono ?_); (case s1 => exact tC ((Kd.C_below HR0.out HB.out))); (case s2 => exact HC0.out); rintro e w31 ⟨v738, rfl, ho0, hb⟩; refine ⟨_, rfl, ?_⟩; refine qM5 (Kd.S_below (by (with_reducible repeat (first | apply Kd.S_alloc | apply Kd.S_drewN | apply Kd.S_drew)); exact HO_4.out) hb) (Kd.S_below (by (with_reducible repeat (first | apply Kd.S_alloc | apply Kd.S_drewN | apply Kd.S_drew)); exact HO_6.out) hb) (Kd.S_below (by (with_reducible repeat (first | apply Kd.S_alloc | apply Kd.S_drewN | apply Kd.S_drew)); exact HO_7.out) hb) (Kd.S_lower (Kd.S_new' (Kd.S_new' (Kd.S_new' ho0 (Kd.S_lt (by (with_reducible repeat (first | apply Kd.S_alloc | apply Kd.S_drewN | apply Kd.S_drew)); exact HO_4.out))) (Kd.S_lt (by (with_reducible repeat (first | apply Kd.S_alloc | apply Kd.S_drewN | apply Kd.S_drew)); exact HO_6.out))) (Kd.S_lt (by (with_reducible repeat (first | apply Kd.S_alloc | apply Kd.S_drewN | apply Kd.S_drew)); exact HO_7.out))) (bQZ tB)) (bQT tB hb) ?_; clear HO_4 HO_6 HO_7 HB; intro HO_4 HO_6 HO_7 HO739 HB; (try clear hb); (try clear hb2); (try clear hk); (try clear hi); (try clear ho0); obtain ⟨Ao32, co32, eo32⟩ := Kd.S_slice HO739.out; subst eo32) | ((with_reducible refine gQc (f := 31) rfl ?_); refine goesL_ (some 44) rfl rfl Try.func31 (by kernel_rfl) rfl #[.slice Ao15 t729.length co15, .slice Ao32 t737.length co32] rfl tL ?_; (with_reducible refine (laws_eqMatrixS.calls kj8 _ _ t729 _ _ t737 true _ ?s1 ?s2 ?s3 ?s4 A27.out).mono ?_); (case s1 => exact tC ((Kd.S_reads' HO_6.out).2.2)); (case s2 => exact (Kd.S_reads' HO_6.out).2.1); (case s3 => exact tC ((Kd.S_reads' HO739.out).2.2)); (case s4 => exact (Kd.S_reads' HO739.out).2.1); rintro e w33 ⟨rfl, hb⟩; refine ⟨_, rfl, ?_⟩; refine qM5 (Kd.S_below (by (with_reducible repeat (first | apply Kd.S_alloc | apply Kd.S_drewN | apply Kd.S_drew)); exact HO_4.out) hb) (Kd.S_below (by (with_reducible repeat (first | apply Kd.S_alloc | apply Kd.S_drewN | apply Kd.S_drew)); exact HO_6.out) hb) (Kd.S_below (by (with_reducible repeat (first | apply Kd.S_alloc | apply Kd.S_drewN | apply Kd.S_drew)); exact HO_7.out) hb) (Kd.S_below (by (with_reducible repeat (first | apply Kd.S_alloc | apply Kd.S_drewN | apply Kd.S_drew)); exact HO739.out) hb) (bQT tB hb) ?_; clear HO_4 HO_6 HO_7 HO739 HB; intro HO_4 HO_6 HO_7 HO739 HB; (try clear hb); (try clear hb2); (try clear hk); (try clear hi)) | ((with_reducible refine gQc (f := 32) rfl ?_); refine goesL_ (some 48) rfl rfl Try.func32 (by kernel_rfl) rfl #[.slice Ao15 t729.length co15, .int .i64 1] rfl tL ?_; (with_reducible refine (laws_markMatrixS.calls kj8 (fun k_ => n3 ≤ k_ ∧ k_ < w14.heap.size) _ _ t729 1 t741 tm1 w _ tB (by (with_reducible repeat (first | apply Kd.S_alloc | apply Kd.S_drewN | apply Kd.S_drew)); exact HO_6.out) A29.out).mono ?_); rintro e w34 ⟨rfl, hs4, hl4, hb, hkp⟩; refine ⟨_, rfl, ?_⟩; have n0_ := Aq.mk (Kd.S_kept (by (with_reducible repeat (first | apply Kd.S_alloc | apply Kd.S_drewN | apply Kd.S_drew)); exact HO_4.out) hkp (fun k_ h_ hs_ => by omega)); have n1_ := Aq.mk hs4; have n2_ := Aq.mk (Kd.S_kept (by (with_reducible repeat (first | apply Kd.S_alloc | apply Kd.S_drewN | apply Kd.S_drew)); exact HO_7.out) hkp (fun k_ h_ hs_ => by omega)); have n4_ := Aq.mk hb; clear HO_4; clear HO_6; clear HO_7; clear HO739; clear HB; have HO_4 := n0_; have HO_6 := n1_; have HO_7 := n2_; have HB := n4_; clear n0_ n1_ n2_ n4_; clear hs4 hl4 hb hkp))
  (try simp only [Act.put, qSa, qSb, qSc])
  go_cut [61] (fun v61 wc => ∃ (kq : Nat) (x61_29 : Bool), v61 = .bool x61_29 ∧ Aq (laws_FnExactDualSpaces.j1 kq l0 t725 t726 t732 x61_29 = some r) ∧ Aq (kq ≤ kj8) ∧ Aq (Kd.S k63 63 wc w.heap.size (fun k_ => k_ < n3) v727 t725) ∧ Aq (Kd.S k63 63 wc w.heap.size (fun k_ => w14.heap.size ≤ k_) v734 t732) ∧ Aq (Below w.heap.size w wc))
  case first =>
   have H := HC30.out
   clear HC30
   by_cases c35 : t741 < 0
   ·rw [if_pos c35] at H
    have c35b0 := decide_eq_true c35
    clear c35
    (first | rw [c35b0] | (simp only [i64_w, i32_w]; rw [c35b0]) | skip)
    replace H' := Aq.mk H
    clear H
    go_wp2
    go_meet
    case rel => exact ⟨_, (true), tS, H', ⟨by have := HJ8.out; first | omega | exact Nat.le_refl _⟩, ⟨by (with_reducible repeat (first | apply Kd.S_alloc | apply Kd.S_drewN | apply Kd.S_drew)); exact HO_4.out⟩, ⟨by (with_reducible repeat (first | apply Kd.S_alloc | apply Kd.S_drewN | apply Kd.S_drew)); exact HO_7.out⟩, ⟨tB⟩⟩
   rw [if_neg c35] at H
   have c35b0 := decide_eq_false c35
   clear c35
   (first | rw [c35b0] | (simp only [i64_w, i32_w]; rw [c35b0]) | skip)
   obtain ⟨t742, A36, H⟩ := qBd H
   by_cases c37 : t742 = true
   ·subst c37
    rw [if_pos rfl] at H
    replace H' := Aq.mk H
    clear H
    obtain ⟨Ao38, co38, eo38⟩ := Kd.S_slice HO_7.out
    subst eo38
    obtain ⟨Ao39, co39, eo39⟩ := Kd.S_slice HO_4.out
    subst eo39
    go_wp2_with (first | (go_at_call 31; (with_reducible refine (laws_eqMatrixS.calls kj8 _ _ t732 _ _ t725 true _ ?s1 ?s2 ?s3 ?s4 A36.out).mono ?_); (case s1 => exact tC ((Kd.S_reads' HO_7.out).2.2)); (case s2 => exact (Kd.S_reads' HO_7.out).2.1); (case s3 => exact tC ((Kd.S_reads' HO_4.out).2.2)); (case s4 => exact (Kd.S_reads' HO_4.out).2.1); rintro e w40 ⟨rfl, hb⟩; have n0_ := Aq.mk (Kd.S_below (by (with_reducible repeat (first | apply Kd.S_alloc | apply Kd.S_drewN | apply Kd.S_drew)); exact HO_4.out) hb); have n1_ := Aq.mk (Kd.S_below (by (with_reducible repeat (first | apply Kd.S_alloc | apply Kd.S_drewN | apply Kd.S_drew)); exact HO_6.out) hb); have n2_ := Aq.mk (Kd.S_below (by (with_reducible repeat (first | apply Kd.S_alloc | apply Kd.S_drewN | apply Kd.S_drew)); exact HO_7.out) hb); have n4_ := Aq.mk (bQT tB hb); clear HO_4; clear HO_6; clear HO_7; clear HB; have HO_4 := n0_; have HO_6 := n1_; have HO_7 := n2_; have HB := n4_; clear n0_ n1_ n2_ n4_; (try clear hb); (try clear hb2); (try clear hk); (try clear hi)))
    go_meet
    case rel => exact ⟨_, ((t733 != t726)), tS, H', ⟨by have := HJ8.out; first | omega | exact Nat.le_refl _⟩, ⟨by (with_reducible repeat (first | apply Kd.S_alloc | apply Kd.S_drewN | apply Kd.S_drew)); exact HO_4.out⟩, ⟨by (with_reducible repeat (first | apply Kd.S_alloc | apply Kd.S_drewN | apply Kd.S_drew)); exact HO_7.out⟩, ⟨tB⟩⟩
   replace c37 := Bool.eq_false_iff.mpr c37
   subst c37
   rw [if_neg (show ¬ (false = true) by decide)] at H
   replace H' := Aq.mk H
   clear H
   obtain ⟨Ao41, co41, eo41⟩ := Kd.S_slice HO_7.out
   subst eo41
   obtain ⟨Ao42, co42, eo42⟩ := Kd.S_slice HO_4.out
   subst eo42
   go_wp2_with (first | (go_at_call 31; (with_reducible refine (laws_eqMatrixS.calls kj8 _ _ t732 _ _ t725 false _ ?s1 ?s2 ?s3 ?s4 A36.out).mono ?_); (case s1 => exact tC ((Kd.S_reads' HO_7.out).2.2)); (case s2 => exact (Kd.S_reads' HO_7.out).2.1); (case s3 => exact tC ((Kd.S_reads' HO_4.out).2.2)); (case s4 => exact (Kd.S_reads' HO_4.out).2.1); rintro e w43 ⟨rfl, hb⟩; have n0_ := Aq.mk (Kd.S_below (by (with_reducible repeat (first | apply Kd.S_alloc | apply Kd.S_drewN | apply Kd.S_drew)); exact HO_4.out) hb); have n1_ := Aq.mk (Kd.S_below (by (with_reducible repeat (first | apply Kd.S_alloc | apply Kd.S_drewN | apply Kd.S_drew)); exact HO_6.out) hb); have n2_ := Aq.mk (Kd.S_below (by (with_reducible repeat (first | apply Kd.S_alloc | apply Kd.S_drewN | apply Kd.S_drew)); exact HO_7.out) hb); have n4_ := Aq.mk (bQT tB hb); clear HO_4; clear HO_6; clear HO_7; clear HB; have HO_4 := n0_; have HO_6 := n1_; have HO_7 := n2_; have HB := n4_; clear n0_ n1_ n2_ n4_; (try clear hb); (try clear hb2); (try clear hk); (try clear hi)))
   go_meet
   case rel => exact ⟨_, (true), tS, H', ⟨by have := HJ8.out; first | omega | exact Nat.le_refl _⟩, ⟨by (with_reducible repeat (first | apply Kd.S_alloc | apply Kd.S_drewN | apply Kd.S_drew)); exact HO_4.out⟩, ⟨by (with_reducible repeat (first | apply Kd.S_alloc | apply Kd.S_drewN | apply Kd.S_drew)); exact HO_7.out⟩, ⟨tB⟩⟩
  clear HC30
  try clear c3
  try clear c3b0
  try clear c18
  try clear c25
  try clear c28
  try clear c35
  try clear c35b0
  try clear c37
  obtain ⟨kq, x61_29, rfl, HA, HJ29, HO_4, HO_7, HB⟩ := hcut
  cases kq with
  | zero => exact absurd HA.out (by simp [laws_FnExactDualSpaces.j1])
  | succ kj29 =>
   have H := HA.out
   clear HA
   simp only [laws_FnExactDualSpaces.j1] at H
   by_cases c44 : x61_29 = true
   ·subst c44
    rw [if_pos rfl] at H
    obtain rfl := Option.some.inj H
    go_wp2
    go_ret
    exact ⟨tE, tB⟩
   replace c44 := Bool.eq_false_iff.mpr c44
   subst c44
   rw [if_neg (show ¬ (false = true) by decide)] at H
   obtain ⟨⟨t743, tm2⟩, A45, H⟩ := qBd H
   (try dsimp only at H)
   obtain ⟨t744, A46, H⟩ := qBd H
   by_cases c47 : t744 < 0
   ·rw [if_pos c47] at H
    have c47b0 := decide_eq_true c47
    clear c47
    obtain rfl := Option.some.inj H
    obtain ⟨Ao48, co48, eo48⟩ := Kd.S_slice HO_7.out
    subst eo48
    go_wp2_with (first | ((with_reducible refine gQc (f := 32) rfl ?_); refine goesL_ (some 64) rfl rfl Try.func32 (by kernel_rfl) rfl #[.slice Ao48 t732.length co48, .int .i64 1] rfl tL ?_; (with_reducible refine (laws_markMatrixS.calls kj29 (fun k_ => w14.heap.size ≤ k_) _ _ t732 1 t743 tm2 w _ tB (by (with_reducible repeat (first | apply Kd.S_alloc | apply Kd.S_drewN | apply Kd.S_drew)); exact HO_7.out) A45.out).mono ?_); rintro e w49 ⟨rfl, hs4, hl4, hb, hkp⟩; refine ⟨_, rfl, ?_⟩; rw [← hl4] at hs4; (try simp only [← hl4]); have n0_ := Aq.mk (Kd.S_kept (by (with_reducible repeat (first | apply Kd.S_alloc | apply Kd.S_drewN | apply Kd.S_drew)); exact HO_4.out) hkp (fun k_ h_ hs_ => by have := HN3.out; omega)); have n1_ := Aq.mk hs4; have n3_ := Aq.mk hb; clear HO_4; clear HO_7; clear HB; have HO_4 := n0_; have HO_7 := n1_; have HB := n3_; clear n0_ n1_ n3_; clear hs4 hl4 hb hkp) | ((with_reducible refine gQc (f := 33) rfl ?_); refine goesL_ (some 67) rfl rfl Try.func33 (by kernel_rfl) rfl #[.slice Ao48 tm2.length co48, .int .i64 1] rfl tL ?_; (with_reducible refine (laws_heldMatrixS.calls kj29 _ _ tm2 1 t744 _ ?s1 ?s2 A46.out).mono ?_); (case s1 => exact tC ((Kd.S_reads' HO_7.out).2.2)); (case s2 => exact (Kd.S_reads' HO_7.out).2.1); rintro e w' ⟨rfl, ⟨nd, rfl⟩⟩; refine ⟨_, rfl, ?_⟩))
    go_ret
    exact ⟨tE, tB⟩
   rw [if_neg c47] at H
   have c47b0 := decide_eq_false c47
   clear c47
   by_cases c50 : t744 = t743
   rotate_left
   ·rw [if_neg c50] at H
    have c50b0 := beq_eq_false_iff_ne.mpr c50
    have c50b1 := bne_iff_ne.mpr c50
    obtain rfl := Option.some.inj H
    obtain ⟨Ao71, co71, eo71⟩ := Kd.S_slice HO_7.out
    subst eo71
    go_wp2_with (first | ((with_reducible refine gQc (f := 32) rfl ?_); refine goesL_ (some 64) rfl rfl Try.func32 (by kernel_rfl) rfl #[.slice Ao71 t732.length co71, .int .i64 1] rfl tL ?_; (with_reducible refine (laws_markMatrixS.calls kj29 (fun k_ => w14.heap.size ≤ k_) _ _ t732 1 t743 tm2 w _ tB (by (with_reducible repeat (first | apply Kd.S_alloc | apply Kd.S_drewN | apply Kd.S_drew)); exact HO_7.out) A45.out).mono ?_); rintro e w72 ⟨rfl, hs4, hl4, hb, hkp⟩; refine ⟨_, rfl, ?_⟩; rw [← hl4] at hs4; (try simp only [← hl4]); have n0_ := Aq.mk (Kd.S_kept (by (with_reducible repeat (first | apply Kd.S_alloc | apply Kd.S_drewN | apply Kd.S_drew)); exact HO_4.out) hkp (fun k_ h_ hs_ => by have := HN3.out; omega)); have n1_ := Aq.mk hs4; have n3_ := Aq.mk hb; clear HO_4; clear HO_7; clear HB; have HO_4 := n0_; have HO_7 := n1_; have HB := n3_; clear n0_ n1_ n3_; clear hs4 hl4 hb hkp) | ((with_reducible refine gQc (f := 33) rfl ?_); refine goesL_ (some 67) rfl rfl Try.func33 (by kernel_rfl) rfl #[.slice Ao71 tm2.length co71, .int .i64 1] rfl tL ?_; (with_reducible refine (laws_heldMatrixS.calls kj29 _ _ tm2 1 t744 _ ?s1 ?s2 A46.out).mono ?_); (case s1 => exact tC ((Kd.S_reads' HO_7.out).2.2)); (case s2 => exact (Kd.S_reads' HO_7.out).2.1); rintro e w' ⟨rfl, ⟨nd, rfl⟩⟩; refine ⟨_, rfl, ?_⟩))
    go_ret
    exact ⟨tE, tB⟩
   rw [if_pos c50] at H
   have c50b0 := beq_iff_eq.mpr c50
   have c50b1 := bne_eq_false_iff_eq.mpr c50
   clear c50
   obtain ⟨t745, A51, H⟩ := qBd H
   obtain ⟨⟨t748, t749⟩, A52, H⟩ := qBd H
   (try dsimp only at H)
   have HC53 := Aq.mk H
   clear H
   obtain ⟨Ao54, co54, eo54⟩ := Kd.S_slice HO_7.out
   subst eo54
   go_upto_region 25 with (first | ((with_reducible refine gQc (f := 32) rfl ?_); refine goesL_ (some 64) rfl rfl Try.func32 (by kernel_rfl) rfl #[.slice Ao54 t732.length co54, .int .i64 1] rfl tL ?_; (with_reducible refine (laws_markMatrixS.calls kj29 (fun k_ => w14.heap.size ≤ k_) _ _ t732 1 t743 tm2 w _ tB (by (with_reducible repeat (first | apply Kd.S_alloc | apply Kd.S_drewN | apply Kd.S_drew)); exact HO_7.out) A45.out).mono ?_); rintro e w55 ⟨rfl, hs4, hl4, hb, hkp⟩; refine ⟨_, rfl, ?_⟩; rw [← hl4] at hs4; (try simp only [← hl4]); have n0_ := Aq.mk (Kd.S_kept (by (with_reducible repeat (first | apply Kd.S_alloc | apply Kd.S_drewN | apply Kd.S_drew)); exact HO_4.out) hkp (fun k_ h_ hs_ => by have := HN3.out; omega)); have n1_ := Aq.mk hs4; have n3_ := Aq.mk hb; clear HO_4; clear HO_7; clear HB; have HO_4 := n0_; have HO_7 := n1_; have HB := n3_; clear n0_ n1_ n3_; clear hs4 hl4 hb hkp) | ((with_reducible refine gQc (f := 33) rfl ?_); refine goesL_ (some 67) rfl rfl Try.func33 (by kernel_rfl) rfl #[.slice Ao54 tm2.length co54, .int .i64 1] rfl tL ?_; (with_reducible refine (laws_heldMatrixS.calls kj29 _ _ tm2 1 t744 _ ?s1 ?s2 A46.out).mono ?_); (case s1 => exact tC ((Kd.S_reads' HO_7.out).2.2)); (case s2 => exact (Kd.S_reads' HO_7.out).2.1); rintro e w' ⟨rfl, ⟨nd, rfl⟩⟩; refine ⟨_, rfl, ?_⟩) | ((with_reducible refine gQc (f := 29) rfl ?_); refine goesL_ (some 75) rfl rfl Try.func29 (by kernel_rfl) rfl #[.slice A0 l0.length c0] rfl tL ?_; (with_reducible refine (laws_toMatrixS.calls kj29 _ _ l0 t745 _ ?s1 ?s2 A51.out).mono ?_); (case s1 => exact tC ((Kd.C_below HR0.out tB))); (case s2 => exact HC0.out); rintro e w56 ⟨v746, rfl, ho0, hb⟩; refine ⟨_, rfl, ?_⟩; refine qM4 (Kd.S_elder' (by (with_reducible repeat (first | apply Kd.S_alloc | apply Kd.S_drewN | apply Kd.S_drew)); exact HO_4.out) (Kd.S_base ho0) hb) (Kd.S_elder' (by (with_reducible repeat (first | apply Kd.S_alloc | apply Kd.S_drewN | apply Kd.S_drew)); exact HO_7.out) (Kd.S_base ho0) hb) (Kd.S_lower (Kd.S_new' (Kd.S_new' ho0 (Kd.S_lt (by (with_reducible repeat (first | apply Kd.S_alloc | apply Kd.S_drewN | apply Kd.S_drew)); exact HO_4.out))) (Kd.S_lt (by (with_reducible repeat (first | apply Kd.S_alloc | apply Kd.S_drewN | apply Kd.S_drew)); exact HO_7.out))) (bQZ tB)) (bQT tB hb) ?_; clear HO_4 HO_7 HB; intro HO_4 HO_7 HO747 HB; (try clear hb); (try clear hb2); (try clear hk); (try clear hi); (try clear ho0); obtain ⟨Ao57, co57, eo57⟩ := Kd.S_slice HO747.out; subst eo57) | ((with_reducible refine gQc (f := 30) rfl ?_); refine goesL_ (some 76) rfl rfl Try.func30 (by kernel_rfl) rfl #[.slice Ao57 t745.length co57] rfl tL ?_; (with_reducible refine (impl_DualSpaces.calls kj29 _ _ t745 t748 t749 _ ?s1 ?s2 A52.out).mono ?_); (case s1 => exact tC ((Kd.S_reads' HO747.out).2.2)); (case s2 => exact (Kd.S_reads' HO747.out).2.1); rintro e w58 ⟨v750, rfl, ho0, hb⟩; refine ⟨_, rfl, ?_⟩; refine qM5 (Kd.S_elder' (by (with_reducible repeat (first | apply Kd.S_alloc | apply Kd.S_drewN | apply Kd.S_drew)); exact HO_4.out) (Kd.S_base ho0) hb) (Kd.S_elder' (by (with_reducible repeat (first | apply Kd.S_alloc | apply Kd.S_drewN | apply Kd.S_drew)); exact HO_7.out) (Kd.S_base ho0) hb) (Kd.S_elder' (by (with_reducible repeat (first | apply Kd.S_alloc | apply Kd.S_drewN | apply Kd.S_drew)); exact HO747.out) (Kd.S_base ho0) hb) (Kd.S_lower (Kd.S_new' (Kd.S_new' (Kd.S_new' ho0 (Kd.S_lt (by (with_reducible repeat (first | apply Kd.S_alloc | apply Kd.S_drewN | apply Kd.S_drew)); exact HO_4.out))) (Kd.S_lt (by (with_reducible repeat (first | apply Kd.S_alloc | apply Kd.S_drewN | apply Kd.S_drew)); exact HO_7.out))) (Kd.S_lt (by (with_reducible repeat (first | apply Kd.S_alloc | apply Kd.S_drewN | apply Kd.S_drew)); exact HO747.out))) (bQZ tB)) (bQT tB hb) ?_; clear HO_4 HO_7 HO747 HB; intro HO_4 HO_7 HO747 HO751 HB; (try clear hb); (try clear hb2); (try clear hk); (try clear hi); (try clear ho0)))
   (try simp only [Act.put, qSa, qSb, qSc])
   go_cut [87] (fun v87 wc => ∃ (kq : Nat) (x87_52 : Bool), v87 = .bool x87_52 ∧ Aq (laws_FnExactDualSpaces.j2 kq tm2 t743 x87_52 = some r) ∧ Aq (kq ≤ kj29) ∧ Aq (Kd.S k63 63 wc w.heap.size (fun _ => True) (.slice Ao54 tm2.length co54) tm2) ∧ Aq (Below w.heap.size w wc))
   case first =>
    have H := HC53.out
    clear HC53
    obtain ⟨t752, A59, H⟩ := qBd H
    by_cases c60 : t752 = true
    ·subst c60
     rw [if_pos rfl] at H
     replace H' := Aq.mk H
     clear H
     obtain ⟨Ao61, co61, eo61⟩ := Kd.S_slice HO751.out
     subst eo61
     obtain ⟨Ao62, co62, eo62⟩ := Kd.S_slice HO_4.out
     subst eo62
     go_wp2_with (first | ((with_reducible refine gQc (f := 31) rfl ?_); refine goesL_ (some 81) rfl rfl Try.func31 (by kernel_rfl) rfl #[.slice Ao61 t748.length co61, .slice Ao62 t725.length co62] rfl tL ?_; (with_reducible refine (laws_eqMatrixS.calls kj29 _ _ t748 _ _ t725 true _ ?s1 ?s2 ?s3 ?s4 A59.out).mono ?_); (case s1 => exact tC ((Kd.S_reads' HO751.out).2.2)); (case s2 => exact (Kd.S_reads' HO751.out).2.1); (case s3 => exact tC ((Kd.S_reads' HO_4.out).2.2)); (case s4 => exact (Kd.S_reads' HO_4.out).2.1); rintro e w63 ⟨rfl, hb⟩; refine ⟨_, rfl, ?_⟩; refine qM5 (Kd.S_below (by (with_reducible repeat (first | apply Kd.S_alloc | apply Kd.S_drewN | apply Kd.S_drew)); exact HO_4.out) hb) (Kd.S_below (by (with_reducible repeat (first | apply Kd.S_alloc | apply Kd.S_drewN | apply Kd.S_drew)); exact HO_7.out) hb) (Kd.S_below (by (with_reducible repeat (first | apply Kd.S_alloc | apply Kd.S_drewN | apply Kd.S_drew)); exact HO747.out) hb) (Kd.S_below (by (with_reducible repeat (first | apply Kd.S_alloc | apply Kd.S_drewN | apply Kd.S_drew)); exact HO751.out) hb) (bQT tB hb) ?_; clear HO_4 HO_7 HO747 HO751 HB; intro HO_4 HO_7 HO747 HO751 HB; (try clear hb); (try clear hb2); (try clear hk); (try clear hi)))
     go_meet
     case rel => exact ⟨_, ((t749 != t726)), tS, H', ⟨by have := HJ8.out; have := HJ29.out; first | omega | exact Nat.le_refl _⟩, ⟨by (with_reducible repeat (first | apply Kd.S_alloc | apply Kd.S_drewN | apply Kd.S_drew)); exact Kd.S_mono HO_7.out (fun _ hk => trivial)⟩, ⟨tB⟩⟩
    replace c60 := Bool.eq_false_iff.mpr c60
    subst c60
    rw [if_neg (show ¬ (false = true) by decide)] at H
    replace H' := Aq.mk H
    clear H
    obtain ⟨Ao64, co64, eo64⟩ := Kd.S_slice HO751.out
    subst eo64
    obtain ⟨Ao65, co65, eo65⟩ := Kd.S_slice HO_4.out
    subst eo65
    go_wp2_with (first | ((with_reducible refine gQc (f := 31) rfl ?_); refine goesL_ (some 81) rfl rfl Try.func31 (by kernel_rfl) rfl #[.slice Ao64 t748.length co64, .slice Ao65 t725.length co65] rfl tL ?_; (with_reducible refine (laws_eqMatrixS.calls kj29 _ _ t748 _ _ t725 false _ ?s1 ?s2 ?s3 ?s4 A59.out).mono ?_); (case s1 => exact tC ((Kd.S_reads' HO751.out).2.2)); (case s2 => exact (Kd.S_reads' HO751.out).2.1); (case s3 => exact tC ((Kd.S_reads' HO_4.out).2.2)); (case s4 => exact (Kd.S_reads' HO_4.out).2.1); rintro e w66 ⟨rfl, hb⟩; refine ⟨_, rfl, ?_⟩; refine qM5 (Kd.S_below (by (with_reducible repeat (first | apply Kd.S_alloc | apply Kd.S_drewN | apply Kd.S_drew)); exact HO_4.out) hb) (Kd.S_below (by (with_reducible repeat (first | apply Kd.S_alloc | apply Kd.S_drewN | apply Kd.S_drew)); exact HO_7.out) hb) (Kd.S_below (by (with_reducible repeat (first | apply Kd.S_alloc | apply Kd.S_drewN | apply Kd.S_drew)); exact HO747.out) hb) (Kd.S_below (by (with_reducible repeat (first | apply Kd.S_alloc | apply Kd.S_drewN | apply Kd.S_drew)); exact HO751.out) hb) (bQT tB hb) ?_; clear HO_4 HO_7 HO747 HO751 HB; intro HO_4 HO_7 HO747 HO751 HB; (try clear hb); (try clear hb2); (try clear hk); (try clear hi)))
    go_meet
    case rel => exact ⟨_, (true), tS, H', ⟨by have := HJ8.out; have := HJ29.out; first | omega | exact Nat.le_refl _⟩, ⟨by (with_reducible repeat (first | apply Kd.S_alloc | apply Kd.S_drewN | apply Kd.S_drew)); exact Kd.S_mono HO_7.out (fun _ hk => trivial)⟩, ⟨tB⟩⟩
   clear HC53
   try clear c3
   try clear c3b0
   try clear c18
   try clear c25
   try clear c28
   try clear c35
   try clear c35b0
   try clear c37
   try clear c44
   try clear c47
   try clear c47b0
   try clear c50
   try clear c50b0
   try clear c50b1
   try clear c60
   obtain ⟨kq, x87_52, rfl, HA, HJ52, HO_7, HB⟩ := hcut
   cases kq with
   | zero => exact absurd HA.out (by simp [laws_FnExactDualSpaces.j2])
   | succ kj52 =>
    have H := HA.out
    clear HA
    simp only [laws_FnExactDualSpaces.j2] at H
    by_cases c67 : x87_52 = true
    ·subst c67
     rw [if_pos rfl] at H
     obtain rfl := Option.some.inj H
     go_wp2
     go_ret
     exact ⟨tE, tB⟩
    replace c67 := Bool.eq_false_iff.mpr c67
    subst c67
    rw [if_neg (show ¬ (false = true) by decide)] at H
    obtain ⟨t753, A68, H⟩ := qBd H
    by_cases c69 : t753 < 0
    ·rw [if_pos c69] at H
     have c69b0 := decide_eq_true c69
     clear c69
     obtain rfl := Option.some.inj H
     go_wp2_with (first | ((with_reducible refine gQc (f := 33) rfl ?_); refine goesL_ (some 90) rfl rfl Try.func33 (by kernel_rfl) rfl #[.slice Ao54 tm2.length co54, .int .i64 1] rfl tL ?_; (with_reducible refine (laws_heldMatrixS.calls kj52 _ _ tm2 1 t753 _ ?s1 ?s2 A68.out).mono ?_); (case s1 => exact tC ((Kd.S_reads' HO_7.out).2.2)); (case s2 => exact (Kd.S_reads' HO_7.out).2.1); rintro e w' ⟨rfl, ⟨nd, rfl⟩⟩; refine ⟨_, rfl, ?_⟩))
     go_ret
     exact ⟨tE, tB⟩
    rw [if_neg c69] at H
    have c69b0 := decide_eq_false c69
    clear c69
    by_cases c70 : t753 = t743
    ·rw [if_pos c70] at H
     have c70b0 := beq_iff_eq.mpr c70
     have c70b1 := bne_eq_false_iff_eq.mpr c70
     clear c70
     obtain rfl := Option.some.inj H
     go_wp2_with (first | ((with_reducible refine gQc (f := 33) rfl ?_); refine goesL_ (some 90) rfl rfl Try.func33 (by kernel_rfl) rfl #[.slice Ao54 tm2.length co54, .int .i64 1] rfl tL ?_; (with_reducible refine (laws_heldMatrixS.calls kj52 _ _ tm2 1 t753 _ ?s1 ?s2 A68.out).mono ?_); (case s1 => exact tC ((Kd.S_reads' HO_7.out).2.2)); (case s2 => exact (Kd.S_reads' HO_7.out).2.1); rintro e w' ⟨rfl, ⟨nd, rfl⟩⟩; refine ⟨_, rfl, ?_⟩))
     go_ret
     exact ⟨tE, tB⟩
    rw [if_neg c70] at H
    have c70b0 := beq_eq_false_iff_ne.mpr c70
    have c70b1 := bne_iff_ne.mpr c70
    obtain rfl := Option.some.inj H
    go_wp2_with (first | ((with_reducible refine gQc (f := 33) rfl ?_); refine goesL_ (some 90) rfl rfl Try.func33 (by kernel_rfl) rfl #[.slice Ao54 tm2.length co54, .int .i64 1] rfl tL ?_; (with_reducible refine (laws_heldMatrixS.calls kj52 _ _ tm2 1 t753 _ ?s1 ?s2 A68.out).mono ?_); (case s1 => exact tC ((Kd.S_reads' HO_7.out).2.2)); (case s2 => exact (Kd.S_reads' HO_7.out).2.1); rintro e w' ⟨rfl, ⟨nd, rfl⟩⟩; refine ⟨_, rfl, ?_⟩))
    go_ret
    exact ⟨tE, tB⟩
end Go.Proofs.Ytbalkaphibnpcaa.P
