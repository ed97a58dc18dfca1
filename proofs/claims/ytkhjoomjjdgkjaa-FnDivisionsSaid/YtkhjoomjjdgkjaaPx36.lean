/- Functions of the program and what they tell, as the printing program wrote it. -/
import Derived.Test.YtkhjoomjjdgkjaaPx0
import Derived.Test.YtkhjoomjjdgkjaaPx2
import Derived.Test.YtkhjoomjjdgkjaaPx16
import Derived.Test.YtkhjoomjjdgkjaaPx17
import Derived.Test.YtkhjoomjjdgkjaaPx18
import Derived.Test.YtkhjoomjjdgkjaaPx19
import Derived.Test.YtkhjoomjjdgkjaaPx20
import Derived.Test.YtkhjoomjjdgkjaaPx24
namespace Go.Proofs.Ytkhjoomjjdgkjaa.P
open Go.Shelf Go.RowKit Go.Proofs.YtkhjoomjjdgkjaaW.PrintWords Go.Proofs.YtkhjoomjjdgkjaaW.PrintLast Go.Proofs.YtkhjoomjjdgkjaaW.PrintMore
attribute [local go_sem] max2_int min2_int max_two min_two max_three min_three max_four min_four
set_option linter.unusedVariables false
set_option linter.unusedSimpArgs false
set_option maxHeartbeats 8000000
set_option maxRecDepth 100000
def laws_FnDivisions.j0 : Nat → List Int → List Int → List Int → List Int → List Int → List Int → Bool → Int → Int → Option (Bool)
  | 0, _, _, _, _, _, _, _, _, _ => none
  | k + 1, x6, x7, x8, x9, x11, x12, x103, x649000, x649001 => if x103 = true then (some false) else ((impl_ComposeLinear.f k x649000 x649001 x8 x7).bind fun bt679 => ((impl_ComposeLinear.f k x649000 x649001 x7 x11).bind fun bt683 => ((impl_SumLinear.f k x649000 x649001 bt679.1 x9).bind fun bt687 => ((impl_SumLinear.f k x649000 x649001 bt683.1 x12).bind fun bt691 => (if bt679.2 = 0 then (if bt683.2 = 0 then (if bt687.2 = 0 then (if bt691.2 = 0 then ((spec_SameList.f k bt687.1 x6).bind fun t695 => (if t695 = true then ((spec_SameList.f k bt691.1 x6).bind fun t696 => (some t696)) else (some false))) else (some false)) else (some false)) else (some false)) else (some false))))))
def laws_FnDivisions.f (k : Nat) (l0 : List Int) (l1 : List Int) : Option (Bool) := (laws_a2Long.f l0 l1).bind fun t645 => (if t645 = true then (some true) else ((spec_A2Field.f k l0).bind fun bt646 => ((spec_A2Linear.f k l1 bt646.1 bt646.2 7).bind fun t649 => ((some (([9] : List Int) : List Int)).bind fun y652 => (if y652.length + l0.length < 140737488355328 then ((spec_A2Linear.f k (y652 ++ l0) bt646.1 bt646.2 4).bind fun t658 => ((impl_DivideRight.f k bt646.1 bt646.2 t649 t658).bind fun bt661 => ((impl_DivideLeft.f k bt646.1 bt646.2 t649 t658).bind fun bt668 => (if (t658.length : Int) = 0 then (if bt661.2.2 = 4 then (some (bt668.2.2 == 4)) else (some false)) else (if bt661.2.2 = 0 then (if bt668.2.2 = 0 then (if (bt661.2.1.length : Int) ≥ (t658.length : Int) then (laws_FnDivisions.j0 k t649 t658 bt661.1 bt661.2.1 bt668.1 bt668.2.1 true bt646.1 bt646.2) else (if (bt668.2.1.length : Int) ≥ (t658.length : Int) then (laws_FnDivisions.j0 k t649 t658 bt661.1 bt661.2.1 bt668.1 bt668.2.1 true bt646.1 bt646.2) else ((spec_ValidLinear.f k bt646.1 bt646.2 bt661.1).bind fun t675 => (if t675 = true then ((spec_ValidLinear.f k bt646.1 bt646.2 bt668.1).bind fun t676 => (if t676 = true then ((spec_ValidLinear.f k bt646.1 bt646.2 bt661.2.1).bind fun t677 => (if t677 = true then ((spec_ValidLinear.f k bt646.1 bt646.2 bt668.2.1).bind fun t678 => (laws_FnDivisions.j0 k t649 t658 bt661.1 bt661.2.1 bt668.1 bt668.2.1 (!t678) bt646.1 bt646.2)) else (laws_FnDivisions.j0 k t649 t658 bt661.1 bt661.2.1 bt668.1 bt668.2.1 true bt646.1 bt646.2))) else (laws_FnDivisions.j0 k t649 t658 bt661.1 bt661.2.1 bt668.1 bt668.2.1 true bt646.1 bt646.2))) else (laws_FnDivisions.j0 k t649 t658 bt661.1 bt661.2.1 bt668.1 bt668.2.1 true bt646.1 bt646.2))))) else (laws_FnDivisions.j0 k t649 t658 bt661.1 bt661.2.1 bt668.1 bt668.2.1 true bt646.1 bt646.2)) else (laws_FnDivisions.j0 k t649 t658 bt661.1 bt661.2.1 bt668.1 bt668.2.1 true bt646.1 bt646.2)))))) else (none))))))
theorem laws_FnDivisions.mono_l : ∀ k, (∀ y0 y1 y2 y3 y4 y5 y6 y7 y8, LeO (laws_FnDivisions.j0 k y0 y1 y2 y3 y4 y5 y6 y7 y8) (laws_FnDivisions.j0 (k + 1) y0 y1 y2 y3 y4 y5 y6 y7 y8))
 | 0 => fun _ _ _ _ _ _ _ _ _ r h => by simp [laws_FnDivisions.j0] at h
 | k + 1 => by
  have ih0 := laws_FnDivisions.mono_l k
  ·intro y0 y1 y2 y3 y4 y5 y6 y7 y8
   unfold laws_FnDivisions.j0
   repeat' first
   | (with_reducible first | apply ih0 | apply impl_ComposeLinear.mono | apply impl_DivideLeft.mono | apply impl_DivideRight.mono | apply impl_SumLinear.mono | apply spec_A2Field.mono | apply spec_A2Linear.mono | apply spec_SameList.mono | apply spec_ValidLinear.mono | exact LeO.refl _ | exact LeO.none _ | refine LeO.ite ?_ ?_ | refine LeO.bind ?_ (fun _ => ?_))
   | exact LeO.none _
   | refine LeO.ite ?_ ?_
   | refine LeO.bind ?_ (fun _ => ?_)
theorem laws_FnDivisions.mono : ∀ a0 a1 k, LeO (laws_FnDivisions.f k a0 a1) (laws_FnDivisions.f (k + 1) a0 a1) := by
 intro a0 a1 k
 have ih0 := laws_FnDivisions.mono_l k
 unfold laws_FnDivisions.f
 repeat' first
  | (with_reducible first | apply ih0 | apply impl_ComposeLinear.mono | apply impl_DivideLeft.mono | apply impl_DivideRight.mono | apply impl_SumLinear.mono | apply spec_A2Field.mono | apply spec_A2Linear.mono | apply spec_SameList.mono | apply spec_ValidLinear.mono | exact LeO.refl _ | exact LeO.none _ | refine LeO.ite ?_ ?_ | refine LeO.bind ?_ (fun _ => ?_))
  | exact LeO.none _
  | refine LeO.ite ?_ ?_
  | refine LeO.bind ?_ (fun _ => ?_)
theorem laws_FnDivisions.calls (k : Nat) (A0 : Option Addr) (c0 : Nat) (l0 : List Int) (A1 : Option Addr) (c1 : Nat) (l1 : List Int) (r : Bool) (w : World) (hr0 : Kd.C (Kd.int .u8) w A0 l0.length l0) (hc0 : l0.length ≤ c0) (hr1 : Kd.C (Kd.int .u8) w A1 l1.length l1) (hc1 : l1.length ≤ c1) (h : laws_FnDivisions.f k l0 l1 = some r) :
 Calls Try.prog 5 #[.slice A0 l0.length c0, .slice A1 l1.length c1] w fun e w' => e = .returned (.bool r) ∧ Below w.heap.size w w' := by
 have hu27 := Try.underlying27
 have HR0 := Aq.mk hr0
 have HC0 := Aq.mk hc0
 clear hr0 hc0
 have HR1 := Aq.mk hr1
 have HC1 := Aq.mk hc1
 clear hr1 hc1
 have HB := Aq.mk (Below.refl w.heap.size w)
 have H : ((laws_a2Long.f l0 l1).bind fun t645 => (if t645 = true then (some true) else ((spec_A2Field.f k l0).bind fun bt646 => ((spec_A2Linear.f k l1 bt646.1 bt646.2 7).bind fun t649 => ((some (([9] : List Int) : List Int)).bind fun y652 => (if y652.length + l0.length < 140737488355328 then ((spec_A2Linear.f k (y652 ++ l0) bt646.1 bt646.2 4).bind fun t658 => ((impl_DivideRight.f k bt646.1 bt646.2 t649 t658).bind fun bt661 => ((impl_DivideLeft.f k bt646.1 bt646.2 t649 t658).bind fun bt668 => (if (t658.length : Int) = 0 then (if bt661.2.2 = 4 then (some (bt668.2.2 == 4)) else (some false)) else (if bt661.2.2 = 0 then (if bt668.2.2 = 0 then (if (bt661.2.1.length : Int) ≥ (t658.length : Int) then (laws_FnDivisions.j0 k t649 t658 bt661.1 bt661.2.1 bt668.1 bt668.2.1 true bt646.1 bt646.2) else (if (bt668.2.1.length : Int) ≥ (t658.length : Int) then (laws_FnDivisions.j0 k t649 t658 bt661.1 bt661.2.1 bt668.1 bt668.2.1 true bt646.1 bt646.2) else ((spec_ValidLinear.f k bt646.1 bt646.2 bt661.1).bind fun t675 => (if t675 = true then ((spec_ValidLinear.f k bt646.1 bt646.2 bt668.1).bind fun t676 => (if t676 = true then ((spec_ValidLinear.f k bt646.1 bt646.2 bt661.2.1).bind fun t677 => (if t677 = true then ((spec_ValidLinear.f k bt646.1 bt646.2 bt668.2.1).bind fun t678 => (laws_FnDivisions.j0 k t649 t658 bt661.1 bt661.2.1 bt668.1 bt668.2.1 (!t678) bt646.1 bt646.2)) else (laws_FnDivisions.j0 k t649 t658 bt661.1 bt661.2.1 bt668.1 bt668.2.1 true bt646.1 bt646.2))) else (laws_FnDivisions.j0 k t649 t658 bt661.1 bt661.2.1 bt668.1 bt668.2.1 true bt646.1 bt646.2))) else (laws_FnDivisions.j0 k t649 t658 bt661.1 bt661.2.1 bt668.1 bt668.2.1 true bt646.1 bt646.2))))) else (laws_FnDivisions.j0 k t649 t658 bt661.1 bt661.2.1 bt668.1 bt668.2.1 true bt646.1 bt646.2)) else (laws_FnDivisions.j0 k t649 t658 bt661.1 bt661.2.1 bt668.1 bt668.2.1 true bt646.1 bt646.2)))))) else (none))))))) = some r := h
 clear h
 obtain ⟨t645, A3, H⟩ := qBd H
 by_cases c4 : t645 = true
 ·subst c4
  rw [if_pos rfl] at H
  obtain rfl := Option.some.inj H
  go_enter Try.func5, Try.ntmps5
  go_wp2_with (first | ((with_reducible refine gQc (f := 17) rfl ?_); refine goesL_ (some 24) rfl rfl Try.func17 (by kernel_rfl) rfl #[.slice A0 l0.length c0, .slice A1 l1.length c1] rfl tL ?_; (with_reducible refine (laws_a2Long.calls _ _ l0 _ _ l1 true _ ?s1 ?s2 ?s3 ?s4 A3.out).mono ?_); (case s1 => exact tC HR0.out); (case s2 => exact HC0.out); (case s3 => exact tC HR1.out); (case s4 => exact HC1.out); rintro e w' ⟨rfl, ⟨nd, rfl⟩⟩; refine ⟨_, rfl, ?_⟩))
  go_ret
  exact ⟨tE, tB⟩
 replace c4 := Bool.eq_false_iff.mpr c4
 subst c4
 rw [if_neg (show ¬ (false = true) by decide)] at H
 obtain ⟨⟨t646, t647⟩, A5, H⟩ := qBd H
 (try dsimp only at H)
 obtain ⟨t649, A6, H⟩ := qBd H
 obtain ⟨y652, hy652⟩ : ∃ y_ : List Int, y_ = (([9] : List Int)) := ⟨_, rfl⟩
 replace H : (if y652.length + l0.length < 140737488355328 then ((spec_A2Linear.f k (y652 ++ l0) t646 t647 4).bind fun t658 => ((impl_DivideRight.f k t646 t647 t649 t658).bind fun bt661 => ((impl_DivideLeft.f k t646 t647 t649 t658).bind fun bt668 => (if (t658.length : Int) = 0 then (if bt661.2.2 = 4 then (some (bt668.2.2 == 4)) else (some false)) else (if bt661.2.2 = 0 then (if bt668.2.2 = 0 then (if (bt661.2.1.length : Int) ≥ (t658.length : Int) then (laws_FnDivisions.j0 k t649 t658 bt661.1 bt661.2.1 bt668.1 bt668.2.1 true t646 t647) else (if (bt668.2.1.length : Int) ≥ (t658.length : Int) then (laws_FnDivisions.j0 k t649 t658 bt661.1 bt661.2.1 bt668.1 bt668.2.1 true t646 t647) else ((spec_ValidLinear.f k t646 t647 bt661.1).bind fun t675 => (if t675 = true then ((spec_ValidLinear.f k t646 t647 bt668.1).bind fun t676 => (if t676 = true then ((spec_ValidLinear.f k t646 t647 bt661.2.1).bind fun t677 => (if t677 = true then ((spec_ValidLinear.f k t646 t647 bt668.2.1).bind fun t678 => (laws_FnDivisions.j0 k t649 t658 bt661.1 bt661.2.1 bt668.1 bt668.2.1 (!t678) t646 t647)) else (laws_FnDivisions.j0 k t649 t658 bt661.1 bt661.2.1 bt668.1 bt668.2.1 true t646 t647))) else (laws_FnDivisions.j0 k t649 t658 bt661.1 bt661.2.1 bt668.1 bt668.2.1 true t646 t647))) else (laws_FnDivisions.j0 k t649 t658 bt661.1 bt661.2.1 bt668.1 bt668.2.1 true t646 t647))))) else (laws_FnDivisions.j0 k t649 t658 bt661.1 bt661.2.1 bt668.1 bt668.2.1 true t646 t647)) else (laws_FnDivisions.j0 k t649 t658 bt661.1 bt661.2.1 bt668.1 bt668.2.1 true t646 t647)))))) else (none)) = some r := by first | (rw [hy652]; with_reducible exact H) | (have H2_ := (Option.bind_some _ _).symm.trans H; rw [hy652]; with_reducible exact H2_) | (have H2_ := (Option.bind_some _ _).symm.trans H; with_reducible exact H2_) | with_reducible exact H | (rw [hy652]; exact H) | exact H
 have Ny652 := Aq.mk hy652
 clear hy652
 by_cases c7 : y652.length + l0.length < 140737488355328
 rotate_left
 ·rw [if_neg c7] at H
  exact absurd H (by simp)
 rw [if_pos c7] at H
 have LMc7 := Aq.mk c7
 clear c7
 obtain ⟨y655, hy655⟩ : ∃ y_ : List Int, y_ = (y652 ++ l0) := ⟨_, rfl⟩
 replace H : ((spec_A2Linear.f k y655 t646 t647 4).bind fun t658 => ((impl_DivideRight.f k t646 t647 t649 t658).bind fun bt661 => ((impl_DivideLeft.f k t646 t647 t649 t658).bind fun bt668 => (if (t658.length : Int) = 0 then (if bt661.2.2 = 4 then (some (bt668.2.2 == 4)) else (some false)) else (if bt661.2.2 = 0 then (if bt668.2.2 = 0 then (if (bt661.2.1.length : Int) ≥ (t658.length : Int) then (laws_FnDivisions.j0 k t649 t658 bt661.1 bt661.2.1 bt668.1 bt668.2.1 true t646 t647) else (if (bt668.2.1.length : Int) ≥ (t658.length : Int) then (laws_FnDivisions.j0 k t649 t658 bt661.1 bt661.2.1 bt668.1 bt668.2.1 true t646 t647) else ((spec_ValidLinear.f k t646 t647 bt661.1).bind fun t675 => (if t675 = true then ((spec_ValidLinear.f k t646 t647 bt668.1).bind fun t676 => (if t676 = true then ((spec_ValidLinear.f k t646 t647 bt661.2.1).bind fun t677 => (if t677 = true then ((spec_ValidLinear.f k t646 t647 bt668.2.1).bind fun t678 => (laws_FnDivisions.j0 k t649 t658 bt661.1 bt661.2.1 bt668.1 bt668.2.1 (!t678) t646 t647)) else (laws_FnDivisions.j0 k t649 t658 bt661.1 bt661.2.1 bt668.1 bt668.2.1 true t646 t647))) else (laws_FnDivisions.j0 k t649 t658 bt661.1 bt661.2.1 bt668.1 bt668.2.1 true t646 t647))) else (laws_FnDivisions.j0 k t649 t658 bt661.1 bt661.2.1 bt668.1 bt668.2.1 true t646 t647))))) else (laws_FnDivisions.j0 k t649 t658 bt661.1 bt661.2.1 bt668.1 bt668.2.1 true t646 t647)) else (laws_FnDivisions.j0 k t649 t658 bt661.1 bt661.2.1 bt668.1 bt668.2.1 true t646 t647)))))) = some r := by first | (rw [hy655]; with_reducible exact H) | (have H2_ := (Option.bind_some _ _).symm.trans H; rw [hy655]; with_reducible exact H2_) | (have H2_ := (Option.bind_some _ _).symm.trans H; with_reducible exact H2_) | with_reducible exact H | (rw [hy655]; exact H) | exact H
 have Ny655 := Aq.mk hy655
 clear hy655
 obtain ⟨t658, A8, H⟩ := qBd H
 obtain ⟨⟨t661, t664, t667⟩, A9, H⟩ := qBd H
 (try dsimp only at H)
 obtain ⟨⟨t668, t671, t674⟩, A10, H⟩ := qBd H
 (try dsimp only at H)
 by_cases c11 : (t658.length : Int) = 0
 ·rw [if_pos c11] at H
  have c11b0 := beq_iff_eq.mpr c11
  have c11b1 := bne_eq_false_iff_eq.mpr c11
  clear c11
  by_cases c12 : t667 = 4
  ·rw [if_pos c12] at H
   have c12b0 := beq_iff_eq.mpr c12
   have c12b1 := bne_eq_false_iff_eq.mpr c12
   clear c12
   obtain rfl := Option.some.inj H
   go_enter Try.func5, Try.ntmps5
   try go_wp2_with (first | ((with_reducible refine gQc (f := 17) rfl ?_); refine goesL_ (some 24) rfl rfl Try.func17 (by kernel_rfl) rfl #[.slice A0 l0.length c0, .slice A1 l1.length c1] rfl tL ?_; (with_reducible refine (laws_a2Long.calls _ _ l0 _ _ l1 false _ ?s1 ?s2 ?s3 ?s4 A3.out).mono ?_); (case s1 => exact tC HR0.out); (case s2 => exact HC0.out); (case s3 => exact tC HR1.out); (case s4 => exact HC1.out); rintro e w' ⟨rfl, ⟨nd, rfl⟩⟩; refine ⟨_, rfl, ?_⟩) | ((with_reducible refine gQc (f := 18) rfl ?_); refine goesL_ (some 26) rfl rfl Try.func18 (by kernel_rfl) rfl #[.slice A0 l0.length c0] rfl tL ?_; (with_reducible refine (spec_A2Field.calls k _ _ l0 t646 t647 _ ?s1 ?s2 A5.out).mono ?_); (case s1 => exact tC HR0.out); (case s2 => exact HC0.out); rintro e w13 ⟨rfl, hb⟩; refine ⟨_, rfl, ?_⟩; refine qM1 (bQT tB hb) ?_; clear HB; intro HB; (try clear hb); (try clear hb2); (try clear hk); (try clear hi)) | ((with_reducible refine gQd (N := 5) rfl ?_); (try (refine gate_guard (by rfl) ?_; dsimp only)); refine xQe ?hg (N := 5) ?hd (cs := #[.int .i64 0, .int .i64 0]) (t := 27) ?hr ?_; (case hd => rfl); (case hg => rfl); (case hr => exact tH); intro gb648 hg w14 hbox hb; refine qM4 (bQT tB hb) hbox (tZ w hg) (tZ w hg) ?_; clear HB; intro HB BK648 GW648 GE648; clear hb hbox hg; have hcz15_0 : w14.cell? ⟨gb648, 0, none⟩ = some (.int .i64 0) := (kQC BK648.out 0).trans rfl; have hcz15_1 : w14.cell? ⟨gb648, 1, none⟩ = some (.int .i64 0) := (kQC BK648.out 1).trans rfl; have hfz15_0 := kQF BK648.out 0; have hfz15_1 := kQF BK648.out 1) | ((with_reducible refine gQc (f := 19) rfl ?_); refine goesL_ (some 29) rfl rfl Try.func19 (by kernel_rfl) rfl #[.slice A1 l1.length c1, .agg #[.int .i64 t646, .int .i64 t647], .int .i64 7] rfl tL ?_; (with_reducible refine (spec_A2Linear.calls k _ _ l1 t646 t647 7 t649 _ ?s1 ?s2 A6.out).mono ?_); (case s1 => exact Kd.C_below HR1.out tB); (case s2 => exact HC1.out); rintro e w16 ⟨v650, rfl, ho0, hb⟩; refine ⟨_, rfl, ?_⟩; refine qM3 (Kd.R_lower ho0 (bQZ tB)) (kQB (g := gb648) (o := .cells #[.int .i64 t646, .int .i64 t647] 27 (0, 0)) (by (with_reducible repeat (first | refine kQN ?_ _ | refine kQD ?_ | refine kQA ?_ _)); refine kQP (cs := #[.int .i64 t646, .int .i64 0]) ?_ 1 _ rfl; (with_reducible repeat (first | refine kQN ?_ _ | refine kQD ?_ | refine kQA ?_ _)); refine kQP (cs := #[.int .i64 0, .int .i64 0]) ?_ 0 _ rfl; (with_reducible repeat (first | refine kQN ?_ _ | refine kQD ?_ | refine kQA ?_ _)); exact BK648.out) hb) (bQT tB hb) ?_; clear BK648 HB; intro HO651 BK648 HB; (try clear hb); (try clear hb2); (try clear hk); (try clear hi); (try clear ho0)))
   have n0_ := Aq.mk (Kd.RqD HO651.out)
   have n1_ := Aq.mk (kQD BK648.out)
   have n2_ := Aq.mk (bQ1 HB.out)
   clear HO651
   clear BK648
   clear HB
   have HO651 := n0_
   have BK648 := n1_
   have HB := n2_
   clear n0_ n1_ n2_
   refine start_ (n := 6) (S := fun w' => w'.cell? ⟨gb648, 0, none⟩ = some (.int .i64 t646) ∧ w'.cell? ⟨gb648, 1, none⟩ = some (.int .i64 t647)) (ds := []) #[false, false, false, false, false, false] (by kernel_rfl) rfl rfl ⟨(kQC BK648.out 0).trans rfl, (kQC BK648.out 1).trans rfl⟩ (fun hHeld => ?_)
   generalize w16.drew = w17 at HO651 BK648 HB hHeld ⊢
   refine tP0k 1 31 (bm 6 2) ?_
   refine tT2k 3 33 (bm 6 10) ?_
   refine one_ (i := 0) (N := some 30) (bm 6 11) rfl rfl (by kernel_rfl) (by decide) (fun K hK => ?_)
   refine Kd.R_lit_step (Kd.int .u8) _ 5 ?hg (N := 30) ?hd (xs := ([9] : List Int)) (inner := [.int .u8 9]) (ok := fun _ => True) (okp := fun _ => True) ?hr ?hp (fun _ hk => hk) trivial (Below.refl _ _) (Nat.le_refl _) (by simp) ?_; (case hd => rfl); (case hg => rfl); (case hr => exact tH); (case hp => exact (Reps.one (show Kd.M (Kd.int .u8) _ _ _ 9 [.int .u8 9] from rfl) (Reps.none _ _)))
   intro v653 w18 ho19 hb hg_ hnew_
   clear hg_ hnew_
   (first | rw [← Ny652.out] at ho19 | (simp only [Int.reduceToNat] at ho19; rw [← Ny652.out] at ho19))
   have n0_ := Aq.mk (Kd.R_below (tR HO651.out) hb)
   have n1_ := Aq.mk (Kd.R_lower ho19 (bQZ tB))
   have n2_ := Aq.mk (tQ BK648.out hb)
   have n3_ := Aq.mk (bQT tB hb)
   clear HO651
   clear BK648
   clear HB
   have HO651 := n0_
   have HO654 := n1_
   have BK648 := n2_
   have HB := n3_
   clear n0_ n1_ n2_ n3_
   clear hb ho19
   refine hK.out _ _ ⟨(kQC BK648.out 0).trans rfl, (kQC BK648.out 1).trans rfl⟩ (fun hHeld => ?_)
   clear hK K
   refine tN 30 ?_
   refine one_ (i := 2) (N := some 32) (bm 6 15) rfl rfl (by kernel_rfl) (by decide) (fun K hK => ?_)
   refine Kd.R_append_rows_step (Kd.int .u8) (w0 := w) w.heap.size (by rfl) (.tmp 30) (.tmp 31) 33 5 (.int .u8 0) 1 rfl Try.underlying33 info5 rfl (by decide) (by omega) v653 y652 l0 _ _ _ (fun _ => True) (fun _ => False) rfl rfl ?aO ?aR (fun _ _ h => h) (fun _ h => h.elim) ?aF ?aB ?aS ?aL ?_
   (case aR => exact tC ((Kd.C_below HR0.out HB.out)))
   (case aB => exact tB)
   (case aF => exact (fun _ _ => trivial))
   (case aO => exact (tR HO654.out))
   (case aS => exact (bQZ tB))
   (case aL => have := LMc7.out; omega)
   intro v656 w20 ho hb hg hat
   rw [← Ny655.out] at ho
   have n0_ := Aq.mk (blk_grown (g := gb648) (o := .cells #[.int .i64 t646, .int .i64 t647] 27 (0, 0)) (tG BK648.out) hg (Kd.R_ne HO654.out BK648.out (by decide)))
   have n1_ := Aq.mk (Kd.R_over' (tR HO651.out) (Kd.R_typed (tR HO654.out)) (by decide) hg)
   have n2_ := Aq.mk (hb)
   have n3_ := Aq.mk (ho)
   clear BK648
   clear HO651
   clear HB
   clear HO654
   have BK648 := n0_
   have HO651 := n1_
   have HB := n2_
   have HO657 := n3_
   clear n0_ n1_ n2_ n3_
   clear ho hb hg hat
   obtain ⟨Ao21, co21, eo21⟩ := Kd.R_slice HO657.out
   (first | subst eo21 | (injection eo21 with f1_ f2_ f3_; have f4_ := f1_.symm; have f5_ := f3_.symm; clear f1_ f2_ f3_; subst f4_; subst f5_))
   refine hK.out _ _ ⟨(kQC BK648.out 0).trans rfl, (kQC BK648.out 1).trans rfl⟩ (fun hHeld => ?_)
   clear hK K
   refine tN 32 ?_
   refine one_ (i := 4) (N := some 34) (bm 6 31) rfl rfl (by kernel_rfl) (by decide) (fun K hK => ?_)
   refine goes_ Try.func19 (by kernel_rfl) rfl #[.slice Ao21 y655.length co21, .agg #[.int .i64 t646, .int .i64 t647], .int .i64 4] (by rfl) rfl rfl tL ?_
   with_reducible refine (spec_A2Linear.calls k _ _ y655 t646 t647 4 t658 _ ?s1 ?s2 A8.out).mono ?_
   (case s1 => exact tC ((Kd.R_reads' HO657.out).2.2))
   (case s2 => exact (Kd.R_reads' HO657.out).2.1)
   rintro e w22 ⟨v659, rfl, ho0, hb⟩
   refine ⟨_, rfl, ?_⟩
   have n0_ := Aq.mk (Kd.R_elder' (tR HO651.out) (Kd.R_base ho0) hb)
   have n1_ := Aq.mk (Kd.R_below (tR HO657.out) hb)
   have n2_ := Aq.mk (Kd.R_lower (Kd.R_new' ho0 (Kd.R_lt (tR HO651.out))) (bQZ tB))
   have n3_ := Aq.mk (tQ BK648.out hb)
   have n4_ := Aq.mk (bQT tB hb)
   clear HO651
   clear HO657
   clear BK648
   clear HB
   have HO651 := n0_
   have HO657 := n1_
   have HO660 := n2_
   have BK648 := n3_
   have HB := n4_
   clear n0_ n1_ n2_ n3_ n4_
   (try clear hb)
   (try clear hb2)
   (try clear hk)
   (try clear hi)
   (try clear ho0)
   refine hK.out _ _ ⟨(kQC BK648.out 0).trans rfl, (kQC BK648.out 1).trans rfl⟩ (fun hHeld => ?_)
   clear hK K
   refine tN 34 ?_
   refine tP0k 5 7 (bm 6 63) ?_
   refine done_ (by kernel_rfl) ?_
   have hcz23_0 : w22.cell? ⟨gb648, 0, none⟩ = some (.int .i64 t646) := (kQC BK648.out 0).trans rfl
   have hcz23_1 : w22.cell? ⟨gb648, 1, none⟩ = some (.int .i64 t647) := (kQC BK648.out 1).trans rfl
   have hfz23_0 := kQF BK648.out 0
   have hfz23_1 := kQF BK648.out 1
   obtain ⟨Ao24, co24, eo24⟩ := Kd.R_slice HO651.out
   subst eo24
   obtain ⟨Ao25, co25, eo25⟩ := Kd.R_slice HO660.out
   subst eo25
   try go_wp2_with (first | ((with_reducible refine gQc (f := 11) rfl ?_); refine goesL_ (some 39) rfl rfl Try.func11 (by kernel_rfl) rfl #[.agg #[.int .i64 t646, .int .i64 t647], .slice Ao24 t649.length co24, .slice Ao25 t658.length co25] rfl tL ?_; (with_reducible refine (impl_DivideRight.calls k t646 t647 _ _ t649 _ _ t658 t661 t664 t667 _ ?s1 ?s2 ?s3 ?s4 A9.out).mono ?_); (case s1 => exact tC ((Kd.R_reads' HO651.out).2.2)); (case s2 => exact (Kd.R_reads' HO651.out).2.1); (case s3 => exact tC ((Kd.R_reads' HO660.out).2.2)); (case s4 => exact (Kd.R_reads' HO660.out).2.1); rintro e w26 ⟨v662, v665, rfl, ho0, ho1, hb⟩; refine ⟨_, rfl, ?_⟩; refine qM7 (Kd.R_mono (Kd.R_told (Kd.R_told (Kd.R_old (tR HO651.out) hb) (Kd.R_base ho0)) (Kd.R_base ho1)) (fun _ h_ => h_.1)) (Kd.R_below (tR HO657.out) hb) (Kd.R_mono (Kd.R_told (Kd.R_told (Kd.R_old (tR HO660.out) hb) (Kd.R_base ho0)) (Kd.R_base ho1)) (fun _ h_ => h_.1)) (Kd.R_lower (Kd.R_new' (Kd.R_new' ho0 (Kd.R_lt (tR HO651.out))) (Kd.R_lt (tR HO660.out))) (bQZ tB)) (Kd.R_lower (Kd.R_new' (Kd.R_new' ho1 (Kd.R_lt (tR HO651.out))) (Kd.R_lt (tR HO660.out))) (bQZ tB)) (tQ BK648.out hb) (bQT tB hb) ?_; clear HO651 HO657 HO660 BK648 HB; intro HO651 HO657 HO660 HO663 HO666 BK648 HB; (try clear hb); (try clear hb2); (try clear hk); (try clear hi); (try clear ho0); (try clear ho1); have hcz27_0 : w26.cell? ⟨gb648, 0, none⟩ = some (.int .i64 t646) := (kQC BK648.out 0).trans rfl; have hcz27_1 : w26.cell? ⟨gb648, 1, none⟩ = some (.int .i64 t647) := (kQC BK648.out 1).trans rfl; have hfz27_0 := kQF BK648.out 0; have hfz27_1 := kQF BK648.out 1) | ((with_reducible refine gQc (f := 16) rfl ?_); refine goesL_ (some 47) rfl rfl Try.func16 (by kernel_rfl) rfl #[.agg #[.int .i64 t646, .int .i64 t647], .slice Ao24 t649.length co24, .slice Ao25 t658.length co25] rfl tL ?_; (with_reducible refine (impl_DivideLeft.calls k t646 t647 _ _ t649 _ _ t658 t668 t671 t674 _ ?s1 ?s2 ?s3 ?s4 A10.out).mono ?_); (case s1 => exact tC ((Kd.R_reads' HO651.out).2.2)); (case s2 => exact (Kd.R_reads' HO651.out).2.1); (case s3 => exact tC ((Kd.R_reads' HO660.out).2.2)); (case s4 => exact (Kd.R_reads' HO660.out).2.1); rintro e w28 ⟨v669, v672, rfl, ho0, ho1, hb⟩; refine ⟨_, rfl, ?_⟩; refine qM9 (Kd.R_mono (Kd.R_told (Kd.R_told (Kd.R_old (tR HO651.out) hb) (Kd.R_base ho0)) (Kd.R_base ho1)) (fun _ h_ => h_.1)) (Kd.R_below (tR HO657.out) hb) (Kd.R_mono (Kd.R_told (Kd.R_told (Kd.R_old (tR HO660.out) hb) (Kd.R_base ho0)) (Kd.R_base ho1)) (fun _ h_ => h_.1)) (Kd.R_mono (Kd.R_told (Kd.R_told (Kd.R_old (tR HO663.out) hb) (Kd.R_base ho0)) (Kd.R_base ho1)) (fun _ h_ => h_.1)) (Kd.R_mono (Kd.R_told (Kd.R_told (Kd.R_old (tR HO666.out) hb) (Kd.R_base ho0)) (Kd.R_base ho1)) (fun _ h_ => h_.1)) (Kd.R_lower (Kd.R_new' (Kd.R_new' (Kd.R_new' (Kd.R_new' ho0 (Kd.R_lt (tR HO651.out))) (Kd.R_lt (tR HO660.out))) (Kd.R_lt (tR HO663.out))) (Kd.R_lt (tR HO666.out))) (bQZ tB)) (Kd.R_lower (Kd.R_new' (Kd.R_new' (Kd.R_new' (Kd.R_new' ho1 (Kd.R_lt (tR HO651.out))) (Kd.R_lt (tR HO660.out))) (Kd.R_lt (tR HO663.out))) (Kd.R_lt (tR HO666.out))) (bQZ tB)) (tQ BK648.out hb) (bQT tB hb) ?_; clear HO651 HO657 HO660 HO663 HO666 BK648 HB; intro HO651 HO657 HO660 HO663 HO666 HO670 HO673 BK648 HB; (try clear hb); (try clear hb2); (try clear hk); (try clear hi); (try clear ho0); (try clear ho1)))
   go_ret
   exact ⟨tE, tB⟩
  rw [if_neg c12] at H
  have c12b0 := beq_eq_false_iff_ne.mpr c12
  have c12b1 := bne_iff_ne.mpr c12
  obtain rfl := Option.some.inj H
  go_enter Try.func5, Try.ntmps5
  try go_wp2_with (first | ((with_reducible refine gQc (f := 17) rfl ?_); refine goesL_ (some 24) rfl rfl Try.func17 (by kernel_rfl) rfl #[.slice A0 l0.length c0, .slice A1 l1.length c1] rfl tL ?_; (with_reducible refine (laws_a2Long.calls _ _ l0 _ _ l1 false _ ?s1 ?s2 ?s3 ?s4 A3.out).mono ?_); (case s1 => exact tC HR0.out); (case s2 => exact HC0.out); (case s3 => exact tC HR1.out); (case s4 => exact HC1.out); rintro e w' ⟨rfl, ⟨nd, rfl⟩⟩; refine ⟨_, rfl, ?_⟩) | ((with_reducible refine gQc (f := 18) rfl ?_); refine goesL_ (some 26) rfl rfl Try.func18 (by kernel_rfl) rfl #[.slice A0 l0.length c0] rfl tL ?_; (with_reducible refine (spec_A2Field.calls k _ _ l0 t646 t647 _ ?s1 ?s2 A5.out).mono ?_); (case s1 => exact tC HR0.out); (case s2 => exact HC0.out); rintro e w29 ⟨rfl, hb⟩; refine ⟨_, rfl, ?_⟩; refine qM1 (bQT tB hb) ?_; clear HB; intro HB; (try clear hb); (try clear hb2); (try clear hk); (try clear hi)) | ((with_reducible refine gQd (N := 5) rfl ?_); (try (refine gate_guard (by rfl) ?_; dsimp only)); refine xQe ?hg (N := 5) ?hd (cs := #[.int .i64 0, .int .i64 0]) (t := 27) ?hr ?_; (case hd => rfl); (case hg => rfl); (case hr => exact tH); intro gb648 hg w30 hbox hb; refine qM4 (bQT tB hb) hbox (tZ w hg) (tZ w hg) ?_; clear HB; intro HB BK648 GW648 GE648; clear hb hbox hg; have hcz31_0 : w30.cell? ⟨gb648, 0, none⟩ = some (.int .i64 0) := (kQC BK648.out 0).trans rfl; have hcz31_1 : w30.cell? ⟨gb648, 1, none⟩ = some (.int .i64 0) := (kQC BK648.out 1).trans rfl; have hfz31_0 := kQF BK648.out 0; have hfz31_1 := kQF BK648.out 1) | ((with_reducible refine gQc (f := 19) rfl ?_); refine goesL_ (some 29) rfl rfl Try.func19 (by kernel_rfl) rfl #[.slice A1 l1.length c1, .agg #[.int .i64 t646, .int .i64 t647], .int .i64 7] rfl tL ?_; (with_reducible refine (spec_A2Linear.calls k _ _ l1 t646 t647 7 t649 _ ?s1 ?s2 A6.out).mono ?_); (case s1 => exact Kd.C_below HR1.out tB); (case s2 => exact HC1.out); rintro e w32 ⟨v650, rfl, ho0, hb⟩; refine ⟨_, rfl, ?_⟩; refine qM3 (Kd.R_lower ho0 (bQZ tB)) (kQB (g := gb648) (o := .cells #[.int .i64 t646, .int .i64 t647] 27 (0, 0)) (by (with_reducible repeat (first | refine kQN ?_ _ | refine kQD ?_ | refine kQA ?_ _)); refine kQP (cs := #[.int .i64 t646, .int .i64 0]) ?_ 1 _ rfl; (with_reducible repeat (first | refine kQN ?_ _ | refine kQD ?_ | refine kQA ?_ _)); refine kQP (cs := #[.int .i64 0, .int .i64 0]) ?_ 0 _ rfl; (with_reducible repeat (first | refine kQN ?_ _ | refine kQD ?_ | refine kQA ?_ _)); exact BK648.out) hb) (bQT tB hb) ?_; clear BK648 HB; intro HO651 BK648 HB; (try clear hb); (try clear hb2); (try clear hk); (try clear hi); (try clear ho0)))
  have n0_ := Aq.mk (Kd.RqD HO651.out)
  have n1_ := Aq.mk (kQD BK648.out)
  have n2_ := Aq.mk (bQ1 HB.out)
  clear HO651
  clear BK648
  clear HB
  have HO651 := n0_
  have BK648 := n1_
  have HB := n2_
  clear n0_ n1_ n2_
  refine start_ (n := 6) (S := fun w' => w'.cell? ⟨gb648, 0, none⟩ = some (.int .i64 t646) ∧ w'.cell? ⟨gb648, 1, none⟩ = some (.int .i64 t647)) (ds := []) #[false, false, false, false, false, false] (by kernel_rfl) rfl rfl ⟨(kQC BK648.out 0).trans rfl, (kQC BK648.out 1).trans rfl⟩ (fun hHeld => ?_)
  generalize w32.drew = w33 at HO651 BK648 HB hHeld ⊢
  refine tP0k 1 31 (bm 6 2) ?_
  refine tT2k 3 33 (bm 6 10) ?_
  refine one_ (i := 0) (N := some 30) (bm 6 11) rfl rfl (by kernel_rfl) (by decide) (fun K hK => ?_)
  refine Kd.R_lit_step (Kd.int .u8) _ 5 ?hg (N := 30) ?hd (xs := ([9] : List Int)) (inner := [.int .u8 9]) (ok := fun _ => True) (okp := fun _ => True) ?hr ?hp (fun _ hk => hk) trivial (Below.refl _ _) (Nat.le_refl _) (by simp) ?_; (case hd => rfl); (case hg => rfl); (case hr => exact tH); (case hp => exact (Reps.one (show Kd.M (Kd.int .u8) _ _ _ 9 [.int .u8 9] from rfl) (Reps.none _ _)))
  intro v653 w34 ho35 hb hg_ hnew_
  clear hg_ hnew_
  (first | rw [← Ny652.out] at ho35 | (simp only [Int.reduceToNat] at ho35; rw [← Ny652.out] at ho35))
  have n0_ := Aq.mk (Kd.R_below (tR HO651.out) hb)
  have n1_ := Aq.mk (Kd.R_lower ho35 (bQZ tB))
  have n2_ := Aq.mk (tQ BK648.out hb)
  have n3_ := Aq.mk (bQT tB hb)
  clear HO651
  clear BK648
  clear HB
  have HO651 := n0_
  have HO654 := n1_
  have BK648 := n2_
  have HB := n3_
  clear n0_ n1_ n2_ n3_
  clear hb ho35
  refine hK.out _ _ ⟨(kQC BK648.out 0).trans rfl, (kQC BK648.out 1).trans rfl⟩ (fun hHeld => ?_)
  clear hK K
  refine tN 30 ?_
  refine one_ (i := 2) (N := some 32) (bm 6 15) rfl rfl (by kernel_rfl) (by decide) (fun K hK => ?_)
  refine Kd.R_append_rows_step (Kd.int .u8) (w0 := w) w.heap.size (by rfl) (.tmp 30) (.tmp 31) 33 5 (.int .u8 0) 1 rfl Try.underlying33 info5 rfl (by decide) (by omega) v653 y652 l0 _ _ _ (fun _ => True) (fun _ => False) rfl rfl ?aO ?aR (fun _ _ h => h) (fun _ h => h.elim) ?aF ?aB ?aS ?aL ?_
  (case aR => exact tC ((Kd.C_below HR0.out HB.out)))
  (case aB => exact tB)
  (case aF => exact (fun _ _ => trivial))
  (case aO => exact (tR HO654.out))
  (case aS => exact (bQZ tB))
  (case aL => have := LMc7.out; omega)
  intro v656 w36 ho hb hg hat
  rw [← Ny655.out] at ho
  have n0_ := Aq.mk (blk_grown (g := gb648) (o := .cells #[.int .i64 t646, .int .i64 t647] 27 (0, 0)) (tG BK648.out) hg (Kd.R_ne HO654.out BK648.out (by decide)))
  have n1_ := Aq.mk (Kd.R_over' (tR HO651.out) (Kd.R_typed (tR HO654.out)) (by decide) hg)
  have n2_ := Aq.mk (hb)
  have n3_ := Aq.mk (ho)
  clear BK648
  clear HO651
  clear HB
  clear HO654
  have BK648 := n0_
  have HO651 := n1_
  have HB := n2_
  have HO657 := n3_
  clear n0_ n1_ n2_ n3_
  clear ho hb hg hat
  obtain ⟨Ao37, co37, eo37⟩ := Kd.R_slice HO657.out
  (first | subst eo37 | (injection eo37 with f1_ f2_ f3_; have f4_ := f1_.symm; have f5_ := f3_.symm; clear f1_ f2_ f3_; subst f4_; subst f5_))
  refine hK.out _ _ ⟨(kQC BK648.out 0).trans rfl, (kQC BK648.out 1).trans rfl⟩ (fun hHeld => ?_)
  clear hK K
  refine tN 32 ?_
  refine one_ (i := 4) (N := some 34) (bm 6 31) rfl rfl (by kernel_rfl) (by decide) (fun K hK => ?_)
  refine goes_ Try.func19 (by kernel_rfl) rfl #[.slice Ao37 y655.length co37, .agg #[.int .i64 t646, .int .i64 t647], .int .i64 4] (by rfl) rfl rfl tL ?_
  with_reducible refine (spec_A2Linear.calls k _ _ y655 t646 t647 4 t658 _ ?s1 ?s2 A8.out).mono ?_
  (case s1 => exact tC ((Kd.R_reads' HO657.out).2.2))
  (case s2 => exact (Kd.R_reads' HO657.out).2.1)
  rintro e w38 ⟨v659, rfl, ho0, hb⟩
  refine ⟨_, rfl, ?_⟩
  have n0_ := Aq.mk (Kd.R_elder' (tR HO651.out) (Kd.R_base ho0) hb)
  have n1_ := Aq.mk (Kd.R_below (tR HO657.out) hb)
  have n2_ := Aq.mk (Kd.R_lower (Kd.R_new' ho0 (Kd.R_lt (tR HO651.out))) (bQZ tB))
  have n3_ := Aq.mk (tQ BK648.out hb)
  have n4_ := Aq.mk (bQT tB hb)
  clear HO651
  clear HO657
  clear BK648
  clear HB
  have HO651 := n0_
  have HO657 := n1_
  have HO660 := n2_
  have BK648 := n3_
  have HB := n4_
  clear n0_ n1_ n2_ n3_ n4_
  (try clear hb)
  (try clear hb2)
  (try clear hk)
  (try clear hi)
  (try clear ho0)
  refine hK.out _ _ ⟨(kQC BK648.out 0).trans rfl, (kQC BK648.out 1).trans rfl⟩ (fun hHeld => ?_)
  clear hK K
  refine tN 34 ?_
  refine tP0k 5 7 (bm 6 63) ?_
  refine done_ (by kernel_rfl) ?_
  have hcz39_0 : w38.cell? ⟨gb648, 0, none⟩ = some (.int .i64 t646) := (kQC BK648.out 0).trans rfl
  have hcz39_1 : w38.cell? ⟨gb648, 1, none⟩ = some (.int .i64 t647) := (kQC BK648.out 1).trans rfl
  have hfz39_0 := kQF BK648.out 0
  have hfz39_1 := kQF BK648.out 1
  obtain ⟨Ao40, co40, eo40⟩ := Kd.R_slice HO651.out
  subst eo40
  obtain ⟨Ao41, co41, eo41⟩ := Kd.R_slice HO660.out
  subst eo41
  try go_wp2_with (first | ((with_reducible refine gQc (f := 11) rfl ?_); refine goesL_ (some 39) rfl rfl Try.func11 (by kernel_rfl) rfl #[.agg #[.int .i64 t646, .int .i64 t647], .slice Ao40 t649.length co40, .slice Ao41 t658.length co41] rfl tL ?_; (with_reducible refine (impl_DivideRight.calls k t646 t647 _ _ t649 _ _ t658 t661 t664 t667 _ ?s1 ?s2 ?s3 ?s4 A9.out).mono ?_); (case s1 => exact tC ((Kd.R_reads' HO651.out).2.2)); (case s2 => exact (Kd.R_reads' HO651.out).2.1); (case s3 => exact tC ((Kd.R_reads' HO660.out).2.2)); (case s4 => exact (Kd.R_reads' HO660.out).2.1); rintro e w42 ⟨v662, v665, rfl, ho0, ho1, hb⟩; refine ⟨_, rfl, ?_⟩; refine qM7 (Kd.R_mono (Kd.R_told (Kd.R_told (Kd.R_old (tR HO651.out) hb) (Kd.R_base ho0)) (Kd.R_base ho1)) (fun _ h_ => h_.1)) (Kd.R_below (tR HO657.out) hb) (Kd.R_mono (Kd.R_told (Kd.R_told (Kd.R_old (tR HO660.out) hb) (Kd.R_base ho0)) (Kd.R_base ho1)) (fun _ h_ => h_.1)) (Kd.R_lower (Kd.R_new' (Kd.R_new' ho0 (Kd.R_lt (tR HO651.out))) (Kd.R_lt (tR HO660.out))) (bQZ tB)) (Kd.R_lower (Kd.R_new' (Kd.R_new' ho1 (Kd.R_lt (tR HO651.out))) (Kd.R_lt (tR HO660.out))) (bQZ tB)) (tQ BK648.out hb) (bQT tB hb) ?_; clear HO651 HO657 HO660 BK648 HB; intro HO651 HO657 HO660 HO663 HO666 BK648 HB; (try clear hb); (try clear hb2); (try clear hk); (try clear hi); (try clear ho0); (try clear ho1); have hcz43_0 : w42.cell? ⟨gb648, 0, none⟩ = some (.int .i64 t646) := (kQC BK648.out 0).trans rfl; have hcz43_1 : w42.cell? ⟨gb648, 1, none⟩ = some (.int .i64 t647) := (kQC BK648.out 1).trans rfl; have hfz43_0 := kQF BK648.out 0; have hfz43_1 := kQF BK648.out 1) | ((with_reducible refine gQc (f := 16) rfl ?_); refine goesL_ (some 47) rfl rfl Try.func16 (by kernel_rfl) rfl #[.agg #[.int .i64 t646, .int .i64 t647], .slice Ao40 t649.length co40, .slice Ao41 t658.length co41] rfl tL ?_; (with_reducible refine (impl_DivideLeft.calls k t646 t647 _ _ t649 _ _ t658 t668 t671 t674 _ ?s1 ?s2 ?s3 ?s4 A10.out).mono ?_); (case s1 => exact tC ((Kd.R_reads' HO651.out).2.2)); (case s2 => exact (Kd.R_reads' HO651.out).2.1); (case s3 => exact tC ((Kd.R_reads' HO660.out).2.2)); (case s4 => exact (Kd.R_reads' HO660.out).2.1); rintro e w44 ⟨v669, v672, rfl, ho0, ho1, hb⟩; refine ⟨_, rfl, ?_⟩; refine qM9 (Kd.R_mono (Kd.R_told (Kd.R_told (Kd.R_old (tR HO651.out) hb) (Kd.R_base ho0)) (Kd.R_base ho1)) (fun _ h_ => h_.1)) (Kd.R_below (tR HO657.out) hb) (Kd.R_mono (Kd.R_told (Kd.R_told (Kd.R_old (tR HO660.out) hb) (Kd.R_base ho0)) (Kd.R_base ho1)) (fun _ h_ => h_.1)) (Kd.R_mono (Kd.R_told (Kd.R_told (Kd.R_old (tR HO663.out) hb) (Kd.R_base ho0)) (Kd.R_base ho1)) (fun _ h_ => h_.1)) (Kd.R_mono (Kd.R_told (Kd.R_told (Kd.R_old (tR HO666.out) hb) (Kd.R_base ho0)) (Kd.R_base ho1)) (fun _ h_ => h_.1)) (Kd.R_lower (Kd.R_new' (Kd.R_new' (Kd.R_new' (Kd.R_new' ho0 (Kd.R_lt (tR HO651.out))) (Kd.R_lt (tR HO660.out))) (Kd.R_lt (tR HO663.out))) (Kd.R_lt (tR HO666.out))) (bQZ tB)) (Kd.R_lower (Kd.R_new' (Kd.R_new' (Kd.R_new' (Kd.R_new' ho1 (Kd.R_lt (tR HO651.out))) (Kd.R_lt (tR HO660.out))) (Kd.R_lt (tR HO663.out))) (Kd.R_lt (tR HO666.out))) (bQZ tB)) (tQ BK648.out hb) (bQT tB hb) ?_; clear HO651 HO657 HO660 HO663 HO666 BK648 HB; intro HO651 HO657 HO660 HO663 HO666 HO670 HO673 BK648 HB; (try clear hb); (try clear hb2); (try clear hk); (try clear hi); (try clear ho0); (try clear ho1)))
  go_ret
  exact ⟨tE, tB⟩
 rw [if_neg c11] at H
 have c11b0 := beq_eq_false_iff_ne.mpr c11
 have c11b1 := bne_iff_ne.mpr c11
 have c11b2 : ¬ (t658 = []) := fun h_ => c11 (by rw [h_]; rfl)
 have HC45 := Aq.mk H
 clear H
 go_enter Try.func5, Try.ntmps5
 try go_wp2_with (first | ((with_reducible refine gQc (f := 17) rfl ?_); refine goesL_ (some 24) rfl rfl Try.func17 (by kernel_rfl) rfl #[.slice A0 l0.length c0, .slice A1 l1.length c1] rfl tL ?_; (with_reducible refine (laws_a2Long.calls _ _ l0 _ _ l1 false _ ?s1 ?s2 ?s3 ?s4 A3.out).mono ?_); (case s1 => exact tC HR0.out); (case s2 => exact HC0.out); (case s3 => exact tC HR1.out); (case s4 => exact HC1.out); rintro e w' ⟨rfl, ⟨nd, rfl⟩⟩; refine ⟨_, rfl, ?_⟩) | ((with_reducible refine gQc (f := 18) rfl ?_); refine goesL_ (some 26) rfl rfl Try.func18 (by kernel_rfl) rfl #[.slice A0 l0.length c0] rfl tL ?_; (with_reducible refine (spec_A2Field.calls k _ _ l0 t646 t647 _ ?s1 ?s2 A5.out).mono ?_); (case s1 => exact tC HR0.out); (case s2 => exact HC0.out); rintro e w46 ⟨rfl, hb⟩; refine ⟨_, rfl, ?_⟩; refine qM1 (bQT tB hb) ?_; clear HB; intro HB; (try clear hb); (try clear hb2); (try clear hk); (try clear hi)) | ((with_reducible refine gQd (N := 5) rfl ?_); (try (refine gate_guard (by rfl) ?_; dsimp only)); refine xQe ?hg (N := 5) ?hd (cs := #[.int .i64 0, .int .i64 0]) (t := 27) ?hr ?_; (case hd => rfl); (case hg => rfl); (case hr => exact tH); intro gb648 hg w47 hbox hb; refine qM4 (bQT tB hb) hbox (tZ w hg) (tZ w hg) ?_; clear HB; intro HB BK648 GW648 GE648; clear hb hbox hg; have hcz48_0 : w47.cell? ⟨gb648, 0, none⟩ = some (.int .i64 0) := (kQC BK648.out 0).trans rfl; have hcz48_1 : w47.cell? ⟨gb648, 1, none⟩ = some (.int .i64 0) := (kQC BK648.out 1).trans rfl; have hfz48_0 := kQF BK648.out 0; have hfz48_1 := kQF BK648.out 1) | ((with_reducible refine gQc (f := 19) rfl ?_); refine goesL_ (some 29) rfl rfl Try.func19 (by kernel_rfl) rfl #[.slice A1 l1.length c1, .agg #[.int .i64 t646, .int .i64 t647], .int .i64 7] rfl tL ?_; (with_reducible refine (spec_A2Linear.calls k _ _ l1 t646 t647 7 t649 _ ?s1 ?s2 A6.out).mono ?_); (case s1 => exact Kd.C_below HR1.out tB); (case s2 => exact HC1.out); rintro e w49 ⟨v650, rfl, ho0, hb⟩; refine ⟨_, rfl, ?_⟩; refine qM3 (Kd.R_lower ho0 (bQZ tB)) (kQB (g := gb648) (o := .cells #[.int .i64 t646, .int .i64 t647] 27 (0, 0)) (by (with_reducible repeat (first | refine kQN ?_ _ | refine kQD ?_ | refine kQA ?_ _)); refine kQP (cs := #[.int .i64 t646, .int .i64 0]) ?_ 1 _ rfl; (with_reducible repeat (first | refine kQN ?_ _ | refine kQD ?_ | refine kQA ?_ _)); refine kQP (cs := #[.int .i64 0, .int .i64 0]) ?_ 0 _ rfl; (with_reducible repeat (first | refine kQN ?_ _ | refine kQD ?_ | refine kQA ?_ _)); exact BK648.out) hb) (bQT tB hb) ?_; clear BK648 HB; intro HO651 BK648 HB; (try clear hb); (try clear hb2); (try clear hk); (try clear hi); (try clear ho0)))
 have n0_ := Aq.mk (Kd.RqD HO651.out)
 have n1_ := Aq.mk (kQD BK648.out)
 have n2_ := Aq.mk (bQ1 HB.out)
 clear HO651
 clear BK648
 clear HB
 have HO651 := n0_
 have BK648 := n1_
 have HB := n2_
 clear n0_ n1_ n2_
 refine start_ (n := 6) (S := fun w' => w'.cell? ⟨gb648, 0, none⟩ = some (.int .i64 t646) ∧ w'.cell? ⟨gb648, 1, none⟩ = some (.int .i64 t647)) (ds := []) #[false, false, false, false, false, false] (by kernel_rfl) rfl rfl ⟨(kQC BK648.out 0).trans rfl, (kQC BK648.out 1).trans rfl⟩ (fun hHeld => ?_)
 generalize w49.drew = w50 at HO651 BK648 HB hHeld ⊢
 refine tP0k 1 31 (bm 6 2) ?_
 refine tT2k 3 33 (bm 6 10) ?_
 refine one_ (i := 0) (N := some 30) (bm 6 11) rfl rfl (by kernel_rfl) (by decide) (fun K hK => ?_)
 refine Kd.R_lit_step (Kd.int .u8) _ 5 ?hg (N := 30) ?hd (xs := ([9] : List Int)) (inner := [.int .u8 9]) (ok := fun _ => True) (okp := fun _ => True) ?hr ?hp (fun _ hk => hk) trivial (Below.refl _ _) (Nat.le_refl _) (by simp) ?_; (case hd => rfl); (case hg => rfl); (case hr => exact tH); (case hp => exact (Reps.one (show Kd.M (Kd.int .u8) _ _ _ 9 [.int .u8 9] from rfl) (Reps.none _ _)))
 intro v653 w51 ho52 hb hg_ hnew_
 clear hg_ hnew_
 (first | rw [← Ny652.out] at ho52 | (simp only [Int.reduceToNat] at ho52; rw [← Ny652.out] at ho52))
 have n0_ := Aq.mk (Kd.R_below (tR HO651.out) hb)
 have n1_ := Aq.mk (Kd.R_lower ho52 (bQZ tB))
 have n2_ := Aq.mk (tQ BK648.out hb)
 have n3_ := Aq.mk (bQT tB hb)
 clear HO651
 clear BK648
 clear HB
 have HO651 := n0_
 have HO654 := n1_
 have BK648 := n2_
 have HB := n3_
 clear n0_ n1_ n2_ n3_
 clear hb ho52
 refine hK.out _ _ ⟨(kQC BK648.out 0).trans rfl, (kQC BK648.out 1).trans rfl⟩ (fun hHeld => ?_)
 clear hK K
 refine tN 30 ?_
 refine one_ (i := 2) (N := some 32) (bm 6 15) rfl rfl (by kernel_rfl) (by decide) (fun K hK => ?_)
 refine Kd.R_append_rows_step (Kd.int .u8) (w0 := w) w.heap.size (by rfl) (.tmp 30) (.tmp 31) 33 5 (.int .u8 0) 1 rfl Try.underlying33 info5 rfl (by decide) (by omega) v653 y652 l0 _ _ _ (fun _ => True) (fun _ => False) rfl rfl ?aO ?aR (fun _ _ h => h) (fun _ h => h.elim) ?aF ?aB ?aS ?aL ?_
 (case aR => exact tC ((Kd.C_below HR0.out HB.out)))
 (case aB => exact tB)
 (case aF => exact (fun _ _ => trivial))
 (case aO => exact (tR HO654.out))
 (case aS => exact (bQZ tB))
 (case aL => have := LMc7.out; omega)
 intro v656 w53 ho hb hg hat
 rw [← Ny655.out] at ho
 have n0_ := Aq.mk (blk_grown (g := gb648) (o := .cells #[.int .i64 t646, .int .i64 t647] 27 (0, 0)) (tG BK648.out) hg (Kd.R_ne HO654.out BK648.out (by decide)))
 have n1_ := Aq.mk (Kd.R_over' (tR HO651.out) (Kd.R_typed (tR HO654.out)) (by decide) hg)
 have n2_ := Aq.mk (hb)
 have n3_ := Aq.mk (ho)
 clear BK648
 clear HO651
 clear HB
 clear HO654
 have BK648 := n0_
 have HO651 := n1_
 have HB := n2_
 have HO657 := n3_
 clear n0_ n1_ n2_ n3_
 clear ho hb hg hat
 obtain ⟨Ao54, co54, eo54⟩ := Kd.R_slice HO657.out
 (first | subst eo54 | (injection eo54 with f1_ f2_ f3_; have f4_ := f1_.symm; have f5_ := f3_.symm; clear f1_ f2_ f3_; subst f4_; subst f5_))
 refine hK.out _ _ ⟨(kQC BK648.out 0).trans rfl, (kQC BK648.out 1).trans rfl⟩ (fun hHeld => ?_)
 clear hK K
 refine tN 32 ?_
 refine one_ (i := 4) (N := some 34) (bm 6 31) rfl rfl (by kernel_rfl) (by decide) (fun K hK => ?_)
 refine goes_ Try.func19 (by kernel_rfl) rfl #[.slice Ao54 y655.length co54, .agg #[.int .i64 t646, .int .i64 t647], .int .i64 4] (by rfl) rfl rfl tL ?_
 with_reducible refine (spec_A2Linear.calls k _ _ y655 t646 t647 4 t658 _ ?s1 ?s2 A8.out).mono ?_
 (case s1 => exact tC ((Kd.R_reads' HO657.out).2.2))
 (case s2 => exact (Kd.R_reads' HO657.out).2.1)
 rintro e w55 ⟨v659, rfl, ho0, hb⟩
 refine ⟨_, rfl, ?_⟩
 have n0_ := Aq.mk (Kd.R_elder' (tR HO651.out) (Kd.R_base ho0) hb)
 have n1_ := Aq.mk (Kd.R_below (tR HO657.out) hb)
 have n2_ := Aq.mk (Kd.R_lower (Kd.R_new' ho0 (Kd.R_lt (tR HO651.out))) (bQZ tB))
 have n3_ := Aq.mk (tQ BK648.out hb)
 have n4_ := Aq.mk (bQT tB hb)
 clear HO651
 clear HO657
 clear BK648
 clear HB
 have HO651 := n0_
 have HO657 := n1_
 have HO660 := n2_
 have BK648 := n3_
 have HB := n4_
 clear n0_ n1_ n2_ n3_ n4_
 (try clear hb)
 (try clear hb2)
 (try clear hk)
 (try clear hi)
 (try clear ho0)
 refine hK.out _ _ ⟨(kQC BK648.out 0).trans rfl, (kQC BK648.out 1).trans rfl⟩ (fun hHeld => ?_)
 clear hK K
 refine tN 34 ?_
 refine tP0k 5 7 (bm 6 63) ?_
 refine done_ (by kernel_rfl) ?_
 have hcz56_0 : w55.cell? ⟨gb648, 0, none⟩ = some (.int .i64 t646) := (kQC BK648.out 0).trans rfl
 have hcz56_1 : w55.cell? ⟨gb648, 1, none⟩ = some (.int .i64 t647) := (kQC BK648.out 1).trans rfl
 have hfz56_0 := kQF BK648.out 0
 have hfz56_1 := kQF BK648.out 1
 obtain ⟨Ao57, co57, eo57⟩ := Kd.R_slice HO651.out
 subst eo57
 obtain ⟨Ao58, co58, eo58⟩ := Kd.R_slice HO660.out
 subst eo58
 go_upto_region 10 with (first | ((with_reducible refine gQc (f := 11) rfl ?_); refine goesL_ (some 39) rfl rfl Try.func11 (by kernel_rfl) rfl #[.agg #[.int .i64 t646, .int .i64 t647], .slice Ao57 t649.length co57, .slice Ao58 t658.length co58] rfl tL ?_; (with_reducible refine (impl_DivideRight.calls k t646 t647 _ _ t649 _ _ t658 t661 t664 t667 _ ?s1 ?s2 ?s3 ?s4 A9.out).mono ?_); (case s1 => exact tC ((Kd.R_reads' HO651.out).2.2)); (case s2 => exact (Kd.R_reads' HO651.out).2.1); (case s3 => exact tC ((Kd.R_reads' HO660.out).2.2)); (case s4 => exact (Kd.R_reads' HO660.out).2.1); rintro e w59 ⟨v662, v665, rfl, ho0, ho1, hb⟩; refine ⟨_, rfl, ?_⟩; refine qM7 (Kd.R_mono (Kd.R_told (Kd.R_told (Kd.R_old (tR HO651.out) hb) (Kd.R_base ho0)) (Kd.R_base ho1)) (fun _ h_ => h_.1)) (Kd.R_below (tR HO657.out) hb) (Kd.R_mono (Kd.R_told (Kd.R_told (Kd.R_old (tR HO660.out) hb) (Kd.R_base ho0)) (Kd.R_base ho1)) (fun _ h_ => h_.1)) (Kd.R_lower (Kd.R_new' (Kd.R_new' ho0 (Kd.R_lt (tR HO651.out))) (Kd.R_lt (tR HO660.out))) (bQZ tB)) (Kd.R_lower (Kd.R_new' (Kd.R_new' ho1 (Kd.R_lt (tR HO651.out))) (Kd.R_lt (tR HO660.out))) (bQZ tB)) (tQ BK648.out hb) (bQT tB hb) ?_; clear HO651 HO657 HO660 BK648 HB; intro HO651 HO657 HO660 HO663 HO666 BK648 HB; (try clear hb); (try clear hb2); (try clear hk); (try clear hi); (try clear ho0); (try clear ho1); have hcz60_0 : w59.cell? ⟨gb648, 0, none⟩ = some (.int .i64 t646) := (kQC BK648.out 0).trans rfl; have hcz60_1 : w59.cell? ⟨gb648, 1, none⟩ = some (.int .i64 t647) := (kQC BK648.out 1).trans rfl; have hfz60_0 := kQF BK648.out 0; have hfz60_1 := kQF BK648.out 1) | ((with_reducible refine gQc (f := 16) rfl ?_); refine goesL_ (some 47) rfl rfl Try.func16 (by kernel_rfl) rfl #[.agg #[.int .i64 t646, .int .i64 t647], .slice Ao57 t649.length co57, .slice Ao58 t658.length co58] rfl tL ?_; (with_reducible refine (impl_DivideLeft.calls k t646 t647 _ _ t649 _ _ t658 t668 t671 t674 _ ?s1 ?s2 ?s3 ?s4 A10.out).mono ?_); (case s1 => exact tC ((Kd.R_reads' HO651.out).2.2)); (case s2 => exact (Kd.R_reads' HO651.out).2.1); (case s3 => exact tC ((Kd.R_reads' HO660.out).2.2)); (case s4 => exact (Kd.R_reads' HO660.out).2.1); rintro e w61 ⟨v669, v672, rfl, ho0, ho1, hb⟩; refine ⟨_, rfl, ?_⟩; refine qM9 (Kd.R_mono (Kd.R_told (Kd.R_told (Kd.R_old (tR HO651.out) hb) (Kd.R_base ho0)) (Kd.R_base ho1)) (fun _ h_ => h_.1)) (Kd.R_below (tR HO657.out) hb) (Kd.R_mono (Kd.R_told (Kd.R_told (Kd.R_old (tR HO660.out) hb) (Kd.R_base ho0)) (Kd.R_base ho1)) (fun _ h_ => h_.1)) (Kd.R_mono (Kd.R_told (Kd.R_told (Kd.R_old (tR HO663.out) hb) (Kd.R_base ho0)) (Kd.R_base ho1)) (fun _ h_ => h_.1)) (Kd.R_mono (Kd.R_told (Kd.R_told (Kd.R_old (tR HO666.out) hb) (Kd.R_base ho0)) (Kd.R_base ho1)) (fun _ h_ => h_.1)) (Kd.R_lower (Kd.R_new' (Kd.R_new' (Kd.R_new' (Kd.R_new' ho0 (Kd.R_lt (tR HO651.out))) (Kd.R_lt (tR HO660.out))) (Kd.R_lt (tR HO663.out))) (Kd.R_lt (tR HO666.out))) (bQZ tB)) (Kd.R_lower (Kd.R_new' (Kd.R_new' (Kd.R_new' (Kd.R_new' ho1 (Kd.R_lt (tR HO651.out))) (Kd.R_lt (tR HO660.out))) (Kd.R_lt (tR HO663.out))) (Kd.R_lt (tR HO666.out))) (bQZ tB)) (tQ BK648.out hb) (bQT tB hb) ?_; clear HO651 HO657 HO660 HO663 HO666 BK648 HB; intro HO651 HO657 HO660 HO663 HO666 HO670 HO673 BK648 HB; (try clear hb); (try clear hb2); (try clear hk); (try clear hi); (try clear ho0); (try clear ho1)))
 (try simp only [Act.put, qSa, qSb, qSc])
 go_cut [103] (fun v103 wc => ∃ (kq : Nat) (x103_44 : Bool), v103 = .bool x103_44 ∧ Aq (laws_FnDivisions.j0 kq t649 t658 t661 t664 t668 t671 x103_44 t646 t647 = some r) ∧ Aq (kq ≤ k) ∧ Aq (Kd.R (Kd.int .i64) 2 wc w.heap.size (fun k_ => some k_ ≠ ((.slice Ao58 t658.length co58) : Value).ownBlock ∧ some k_ ≠ (v662 : Value).ownBlock ∧ some k_ ≠ (v665 : Value).ownBlock ∧ some k_ ≠ (v669 : Value).ownBlock ∧ some k_ ≠ (v672 : Value).ownBlock) (.slice Ao57 t649.length co57) t649) ∧ Aq (Kd.R (Kd.int .i64) 2 wc w.heap.size (fun k_ => some k_ ≠ ((.slice Ao57 t649.length co57) : Value).ownBlock ∧ some k_ ≠ (v662 : Value).ownBlock ∧ some k_ ≠ (v665 : Value).ownBlock ∧ some k_ ≠ (v669 : Value).ownBlock ∧ some k_ ≠ (v672 : Value).ownBlock) (.slice Ao58 t658.length co58) t658) ∧ Aq (Kd.R (Kd.int .i64) 2 wc w.heap.size (fun k_ => some k_ ≠ ((.slice Ao57 t649.length co57) : Value).ownBlock ∧ some k_ ≠ ((.slice Ao58 t658.length co58) : Value).ownBlock ∧ some k_ ≠ (v665 : Value).ownBlock ∧ some k_ ≠ (v669 : Value).ownBlock ∧ some k_ ≠ (v672 : Value).ownBlock) v662 t661) ∧ Aq (Kd.R (Kd.int .i64) 2 wc w.heap.size (fun k_ => some k_ ≠ ((.slice Ao57 t649.length co57) : Value).ownBlock ∧ some k_ ≠ ((.slice Ao58 t658.length co58) : Value).ownBlock ∧ some k_ ≠ (v662 : Value).ownBlock ∧ some k_ ≠ (v669 : Value).ownBlock ∧ some k_ ≠ (v672 : Value).ownBlock) v665 t664) ∧ Aq (Kd.R (Kd.int .i64) 2 wc w.heap.size (fun k_ => some k_ ≠ ((.slice Ao57 t649.length co57) : Value).ownBlock ∧ some k_ ≠ ((.slice Ao58 t658.length co58) : Value).ownBlock ∧ some k_ ≠ (v662 : Value).ownBlock ∧ some k_ ≠ (v665 : Value).ownBlock ∧ some k_ ≠ (v672 : Value).ownBlock) v669 t668) ∧ Aq (Kd.R (Kd.int .i64) 2 wc w.heap.size (fun k_ => some k_ ≠ ((.slice Ao57 t649.length co57) : Value).ownBlock ∧ some k_ ≠ ((.slice Ao58 t658.length co58) : Value).ownBlock ∧ some k_ ≠ (v662 : Value).ownBlock ∧ some k_ ≠ (v665 : Value).ownBlock ∧ some k_ ≠ (v669 : Value).ownBlock) v672 t671) ∧ Aq (wc.heap[gb648]? = some (.cells #[.int .i64 t646, .int .i64 t647] 27 (0, 0))) ∧ Aq (Below w.heap.size w wc))
 case first =>
  have H := HC45.out
  clear HC45
  by_cases c62 : t667 = 0
  rotate_left
  ·rw [if_neg c62] at H
   have c62b0 := beq_eq_false_iff_ne.mpr c62
   have c62b1 := bne_iff_ne.mpr c62
   (first | rw [c62b0] | (simp only [i64_w, i32_w]; rw [c62b0]) | skip)
   replace H' := Aq.mk H
   clear H
   go_wp2
   go_meet
   case rel => exact ⟨_, (true), tS, H', ⟨tO⟩, ⟨by (with_reducible repeat (first | apply Kd.RqA | apply Kd.RqN | apply Kd.RqD)); exact Kd.R_mono HO651.out (fun _ hk => ⟨hk.1.1.1.1.2, ⟨hk.1.1.1.2, ⟨hk.1.1.2, ⟨hk.1.2, hk.2⟩⟩⟩⟩)⟩, ⟨by (with_reducible repeat (first | apply Kd.RqA | apply Kd.RqN | apply Kd.RqD)); exact Kd.R_mono HO660.out (fun _ hk => ⟨hk.1.1.1.1.2, ⟨hk.1.1.1.2, ⟨hk.1.1.2, ⟨hk.1.2, hk.2⟩⟩⟩⟩)⟩, ⟨by (with_reducible repeat (first | apply Kd.RqA | apply Kd.RqN | apply Kd.RqD)); exact Kd.R_mono HO663.out (fun _ hk => ⟨hk.1.1.1.2, ⟨hk.1.1.2, ⟨hk.1.1.1.1, ⟨hk.1.2, hk.2⟩⟩⟩⟩)⟩, ⟨by (with_reducible repeat (first | apply Kd.RqA | apply Kd.RqN | apply Kd.RqD)); exact Kd.R_mono HO666.out (fun _ hk => ⟨hk.1.1.1.2, ⟨hk.1.1.2, ⟨hk.1.1.1.1, ⟨hk.1.2, hk.2⟩⟩⟩⟩)⟩, ⟨by (with_reducible repeat (first | apply Kd.RqA | apply Kd.RqN | apply Kd.RqD)); exact Kd.R_mono HO670.out (fun _ hk => ⟨hk.1.1.1.2, ⟨hk.1.1.2, ⟨hk.1.2, ⟨hk.2, hk.1.1.1.1⟩⟩⟩⟩)⟩, ⟨by (with_reducible repeat (first | apply Kd.RqA | apply Kd.RqN | apply Kd.RqD)); exact Kd.R_mono HO673.out (fun _ hk => ⟨hk.1.1.1.2, ⟨hk.1.1.2, ⟨hk.1.2, ⟨hk.2, hk.1.1.1.1⟩⟩⟩⟩)⟩, ⟨tG BK648.out⟩, ⟨tB⟩⟩
  rw [if_pos c62] at H
  have c62b0 := beq_iff_eq.mpr c62
  have c62b1 := bne_eq_false_iff_eq.mpr c62
  clear c62
  (first | rw [c62b0] | (simp only [i64_w, i32_w]; rw [c62b0]) | skip)
  by_cases c63 : t674 = 0
  rotate_left
  ·rw [if_neg c63] at H
   have c63b0 := beq_eq_false_iff_ne.mpr c63
   have c63b1 := bne_iff_ne.mpr c63
   replace H' := Aq.mk H
   clear H
   go_wp2
   go_meet
   case rel => exact ⟨_, (true), tS, H', ⟨tO⟩, ⟨by (with_reducible repeat (first | apply Kd.RqA | apply Kd.RqN | apply Kd.RqD)); exact Kd.R_mono HO651.out (fun _ hk => ⟨hk.1.1.1.1.2, ⟨hk.1.1.1.2, ⟨hk.1.1.2, ⟨hk.1.2, hk.2⟩⟩⟩⟩)⟩, ⟨by (with_reducible repeat (first | apply Kd.RqA | apply Kd.RqN | apply Kd.RqD)); exact Kd.R_mono HO660.out (fun _ hk => ⟨hk.1.1.1.1.2, ⟨hk.1.1.1.2, ⟨hk.1.1.2, ⟨hk.1.2, hk.2⟩⟩⟩⟩)⟩, ⟨by (with_reducible repeat (first | apply Kd.RqA | apply Kd.RqN | apply Kd.RqD)); exact Kd.R_mono HO663.out (fun _ hk => ⟨hk.1.1.1.2, ⟨hk.1.1.2, ⟨hk.1.1.1.1, ⟨hk.1.2, hk.2⟩⟩⟩⟩)⟩, ⟨by (with_reducible repeat (first | apply Kd.RqA | apply Kd.RqN | apply Kd.RqD)); exact Kd.R_mono HO666.out (fun _ hk => ⟨hk.1.1.1.2, ⟨hk.1.1.2, ⟨hk.1.1.1.1, ⟨hk.1.2, hk.2⟩⟩⟩⟩)⟩, ⟨by (with_reducible repeat (first | apply Kd.RqA | apply Kd.RqN | apply Kd.RqD)); exact Kd.R_mono HO670.out (fun _ hk => ⟨hk.1.1.1.2, ⟨hk.1.1.2, ⟨hk.1.2, ⟨hk.2, hk.1.1.1.1⟩⟩⟩⟩)⟩, ⟨by (with_reducible repeat (first | apply Kd.RqA | apply Kd.RqN | apply Kd.RqD)); exact Kd.R_mono HO673.out (fun _ hk => ⟨hk.1.1.1.2, ⟨hk.1.1.2, ⟨hk.1.2, ⟨hk.2, hk.1.1.1.1⟩⟩⟩⟩)⟩, ⟨tG BK648.out⟩, ⟨tB⟩⟩
  rw [if_pos c63] at H
  have c63b0 := beq_iff_eq.mpr c63
  have c63b1 := bne_eq_false_iff_eq.mpr c63
  clear c63
  by_cases c64 : (t664.length : Int) ≥ (t658.length : Int)
  ·rw [if_pos c64] at H
   have c64b0 := decide_eq_true c64
   have c64b1 : decide (t658.length ≤ t664.length) = true := decide_eq_true (Int.ofNat_le.mp c64)
   clear c64
   replace H' := Aq.mk H
   clear H
   obtain ⟨Ao65, co65, eo65⟩ := Kd.R_slice HO666.out
   subst eo65
   go_wp2
   go_meet
   case rel => exact ⟨_, (true), tS, H', ⟨tO⟩, ⟨by (with_reducible repeat (first | apply Kd.RqA | apply Kd.RqN | apply Kd.RqD)); exact Kd.R_mono HO651.out (fun _ hk => ⟨hk.1.1.1.1.2, ⟨hk.1.1.1.2, ⟨hk.1.1.2, ⟨hk.1.2, hk.2⟩⟩⟩⟩)⟩, ⟨by (with_reducible repeat (first | apply Kd.RqA | apply Kd.RqN | apply Kd.RqD)); exact Kd.R_mono HO660.out (fun _ hk => ⟨hk.1.1.1.1.2, ⟨hk.1.1.1.2, ⟨hk.1.1.2, ⟨hk.1.2, hk.2⟩⟩⟩⟩)⟩, ⟨by (with_reducible repeat (first | apply Kd.RqA | apply Kd.RqN | apply Kd.RqD)); exact Kd.R_mono HO663.out (fun _ hk => ⟨hk.1.1.1.2, ⟨hk.1.1.2, ⟨hk.1.1.1.1, ⟨hk.1.2, hk.2⟩⟩⟩⟩)⟩, ⟨by (with_reducible repeat (first | apply Kd.RqA | apply Kd.RqN | apply Kd.RqD)); exact Kd.R_mono HO666.out (fun _ hk => ⟨hk.1.1.1.2, ⟨hk.1.1.2, ⟨hk.1.1.1.1, ⟨hk.1.2, hk.2⟩⟩⟩⟩)⟩, ⟨by (with_reducible repeat (first | apply Kd.RqA | apply Kd.RqN | apply Kd.RqD)); exact Kd.R_mono HO670.out (fun _ hk => ⟨hk.1.1.1.2, ⟨hk.1.1.2, ⟨hk.1.2, ⟨hk.2, hk.1.1.1.1⟩⟩⟩⟩)⟩, ⟨by (with_reducible repeat (first | apply Kd.RqA | apply Kd.RqN | apply Kd.RqD)); exact Kd.R_mono HO673.out (fun _ hk => ⟨hk.1.1.1.2, ⟨hk.1.1.2, ⟨hk.1.2, ⟨hk.2, hk.1.1.1.1⟩⟩⟩⟩)⟩, ⟨tG BK648.out⟩, ⟨tB⟩⟩
  rw [if_neg c64] at H
  have c64b0 := decide_eq_false c64
  have c64b1 : decide (t658.length ≤ t664.length) = false := decide_eq_false (fun h => c64 (Int.ofNat_le.mpr h))
  clear c64
  by_cases c66 : (t671.length : Int) ≥ (t658.length : Int)
  ·rw [if_pos c66] at H
   have c66b0 := decide_eq_true c66
   have c66b1 : decide (t658.length ≤ t671.length) = true := decide_eq_true (Int.ofNat_le.mp c66)
   clear c66
   replace H' := Aq.mk H
   clear H
   obtain ⟨Ao67, co67, eo67⟩ := Kd.R_slice HO666.out
   subst eo67
   obtain ⟨Ao68, co68, eo68⟩ := Kd.R_slice HO673.out
   subst eo68
   go_wp2
   go_meet
   case rel => exact ⟨_, (true), tS, H', ⟨tO⟩, ⟨by (with_reducible repeat (first | apply Kd.RqA | apply Kd.RqN | apply Kd.RqD)); exact Kd.R_mono HO651.out (fun _ hk => ⟨hk.1.1.1.1.2, ⟨hk.1.1.1.2, ⟨hk.1.1.2, ⟨hk.1.2, hk.2⟩⟩⟩⟩)⟩, ⟨by (with_reducible repeat (first | apply Kd.RqA | apply Kd.RqN | apply Kd.RqD)); exact Kd.R_mono HO660.out (fun _ hk => ⟨hk.1.1.1.1.2, ⟨hk.1.1.1.2, ⟨hk.1.1.2, ⟨hk.1.2, hk.2⟩⟩⟩⟩)⟩, ⟨by (with_reducible repeat (first | apply Kd.RqA | apply Kd.RqN | apply Kd.RqD)); exact Kd.R_mono HO663.out (fun _ hk => ⟨hk.1.1.1.2, ⟨hk.1.1.2, ⟨hk.1.1.1.1, ⟨hk.1.2, hk.2⟩⟩⟩⟩)⟩, ⟨by (with_reducible repeat (first | apply Kd.RqA | apply Kd.RqN | apply Kd.RqD)); exact Kd.R_mono HO666.out (fun _ hk => ⟨hk.1.1.1.2, ⟨hk.1.1.2, ⟨hk.1.1.1.1, ⟨hk.1.2, hk.2⟩⟩⟩⟩)⟩, ⟨by (with_reducible repeat (first | apply Kd.RqA | apply Kd.RqN | apply Kd.RqD)); exact Kd.R_mono HO670.out (fun _ hk => ⟨hk.1.1.1.2, ⟨hk.1.1.2, ⟨hk.1.2, ⟨hk.2, hk.1.1.1.1⟩⟩⟩⟩)⟩, ⟨by (with_reducible repeat (first | apply Kd.RqA | apply Kd.RqN | apply Kd.RqD)); exact Kd.R_mono HO673.out (fun _ hk => ⟨hk.1.1.1.2, ⟨hk.1.1.2, ⟨hk.1.2, ⟨hk.2, hk.1.1.1.1⟩⟩⟩⟩)⟩, ⟨tG BK648.out⟩, ⟨tB⟩⟩
  rw [if_neg c66] at H
  have c66b0 := decide_eq_false c66
  have c66b1 : decide (t658.length ≤ t671.length) = false := decide_eq_false (fun h => c66 (Int.ofNat_le.mpr h))
  clear c66
  obtain ⟨t675, A69, H⟩ := qBd H
  by_cases c70 : t675 = true
  rotate_left
  ·replace c70 := Bool.eq_false_iff.mpr c70
   subst c70
   rw [if_neg (show ¬ (false = true) by decide)] at H
   replace H' := Aq.mk H
   clear H
   obtain ⟨Ao106, co106, eo106⟩ := Kd.R_slice HO666.out
   subst eo106
   obtain ⟨Ao107, co107, eo107⟩ := Kd.R_slice HO673.out
   subst eo107
   have hcz108_0 : w61.cell? ⟨gb648, 0, none⟩ = some (.int .i64 t646) := (kQC BK648.out 0).trans rfl
   have hcz108_1 : w61.cell? ⟨gb648, 1, none⟩ = some (.int .i64 t647) := (kQC BK648.out 1).trans rfl
   have hfz108_0 := kQF BK648.out 0
   have hfz108_1 := kQF BK648.out 1
   obtain ⟨Ao109, co109, eo109⟩ := Kd.R_slice HO663.out
   subst eo109
   go_wp2_with (first | (go_at_call 20; (with_reducible refine (spec_ValidLinear.calls k t646 t647 _ _ t661 false _ ?s1 ?s2 A69.out).mono ?_); (case s1 => exact tC ((Kd.R_reads' HO663.out).2.2)); (case s2 => exact (Kd.R_reads' HO663.out).2.1); rintro e w110 ⟨rfl, hb⟩; refine qM9 (Kd.R_below (tR HO651.out) hb) (Kd.R_below (tR HO657.out) hb) (Kd.R_below (tR HO660.out) hb) (Kd.R_below (tR HO663.out) hb) (Kd.R_below (tR HO666.out) hb) (Kd.R_below (tR HO670.out) hb) (Kd.R_below (tR HO673.out) hb) (tQ BK648.out hb) (bQT tB hb) ?_; clear HO651 HO657 HO660 HO663 HO666 HO670 HO673 BK648 HB; intro HO651 HO657 HO660 HO663 HO666 HO670 HO673 BK648 HB; (try clear hb); (try clear hb2); (try clear hk); (try clear hi)))
   go_meet
   case rel => exact ⟨_, (true), tS, H', ⟨tO⟩, ⟨by (with_reducible repeat (first | apply Kd.RqA | apply Kd.RqN | apply Kd.RqD)); exact Kd.R_mono HO651.out (fun _ hk => ⟨hk.1.1.1.1.2, ⟨hk.1.1.1.2, ⟨hk.1.1.2, ⟨hk.1.2, hk.2⟩⟩⟩⟩)⟩, ⟨by (with_reducible repeat (first | apply Kd.RqA | apply Kd.RqN | apply Kd.RqD)); exact Kd.R_mono HO660.out (fun _ hk => ⟨hk.1.1.1.1.2, ⟨hk.1.1.1.2, ⟨hk.1.1.2, ⟨hk.1.2, hk.2⟩⟩⟩⟩)⟩, ⟨by (with_reducible repeat (first | apply Kd.RqA | apply Kd.RqN | apply Kd.RqD)); exact Kd.R_mono HO663.out (fun _ hk => ⟨hk.1.1.1.2, ⟨hk.1.1.2, ⟨hk.1.1.1.1, ⟨hk.1.2, hk.2⟩⟩⟩⟩)⟩, ⟨by (with_reducible repeat (first | apply Kd.RqA | apply Kd.RqN | apply Kd.RqD)); exact Kd.R_mono HO666.out (fun _ hk => ⟨hk.1.1.1.2, ⟨hk.1.1.2, ⟨hk.1.1.1.1, ⟨hk.1.2, hk.2⟩⟩⟩⟩)⟩, ⟨by (with_reducible repeat (first | apply Kd.RqA | apply Kd.RqN | apply Kd.RqD)); exact Kd.R_mono HO670.out (fun _ hk => ⟨hk.1.1.1.2, ⟨hk.1.1.2, ⟨hk.1.2, ⟨hk.2, hk.1.1.1.1⟩⟩⟩⟩)⟩, ⟨by (with_reducible repeat (first | apply Kd.RqA | apply Kd.RqN | apply Kd.RqD)); exact Kd.R_mono HO673.out (fun _ hk => ⟨hk.1.1.1.2, ⟨hk.1.1.2, ⟨hk.1.2, ⟨hk.2, hk.1.1.1.1⟩⟩⟩⟩)⟩, ⟨tG BK648.out⟩, ⟨tB⟩⟩
  subst c70
  rw [if_pos rfl] at H
  obtain ⟨t676, A71, H⟩ := qBd H
  by_cases c72 : t676 = true
  rotate_left
  ·replace c72 := Bool.eq_false_iff.mpr c72
   subst c72
   rw [if_neg (show ¬ (false = true) by decide)] at H
   replace H' := Aq.mk H
   clear H
   obtain ⟨Ao98, co98, eo98⟩ := Kd.R_slice HO666.out
   subst eo98
   obtain ⟨Ao99, co99, eo99⟩ := Kd.R_slice HO673.out
   subst eo99
   have hcz100_0 : w61.cell? ⟨gb648, 0, none⟩ = some (.int .i64 t646) := (kQC BK648.out 0).trans rfl
   have hcz100_1 : w61.cell? ⟨gb648, 1, none⟩ = some (.int .i64 t647) := (kQC BK648.out 1).trans rfl
   have hfz100_0 := kQF BK648.out 0
   have hfz100_1 := kQF BK648.out 1
   obtain ⟨Ao101, co101, eo101⟩ := Kd.R_slice HO663.out
   subst eo101
   go_wp2_with (first | (go_at_call 20; (with_reducible refine (spec_ValidLinear.calls k t646 t647 _ _ t661 true _ ?s1 ?s2 A69.out).mono ?_); (case s1 => exact tC ((Kd.R_reads' HO663.out).2.2)); (case s2 => exact (Kd.R_reads' HO663.out).2.1); rintro e w102 ⟨rfl, hb⟩; refine qM9 (Kd.R_below (tR HO651.out) hb) (Kd.R_below (tR HO657.out) hb) (Kd.R_below (tR HO660.out) hb) (Kd.R_below (tR HO663.out) hb) (Kd.R_below (tR HO666.out) hb) (Kd.R_below (tR HO670.out) hb) (Kd.R_below (tR HO673.out) hb) (tQ BK648.out hb) (bQT tB hb) ?_; clear HO651 HO657 HO660 HO663 HO666 HO670 HO673 BK648 HB; intro HO651 HO657 HO660 HO663 HO666 HO670 HO673 BK648 HB; (try clear hb); (try clear hb2); (try clear hk); (try clear hi); have hcz103_0 : w102.cell? ⟨gb648, 0, none⟩ = some (.int .i64 t646) := (kQC BK648.out 0).trans rfl; have hcz103_1 : w102.cell? ⟨gb648, 1, none⟩ = some (.int .i64 t647) := (kQC BK648.out 1).trans rfl; have hfz103_0 := kQF BK648.out 0; have hfz103_1 := kQF BK648.out 1; obtain ⟨Ao104, co104, eo104⟩ := Kd.R_slice HO670.out; subst eo104) | (go_at_call 20; (with_reducible refine (spec_ValidLinear.calls k t646 t647 _ _ t668 false _ ?s1 ?s2 A71.out).mono ?_); (case s1 => exact tC ((Kd.R_reads' HO670.out).2.2)); (case s2 => exact (Kd.R_reads' HO670.out).2.1); rintro e w105 ⟨rfl, hb⟩; refine qM9 (Kd.R_below (tR HO651.out) hb) (Kd.R_below (tR HO657.out) hb) (Kd.R_below (tR HO660.out) hb) (Kd.R_below (tR HO663.out) hb) (Kd.R_below (tR HO666.out) hb) (Kd.R_below (tR HO670.out) hb) (Kd.R_below (tR HO673.out) hb) (tQ BK648.out hb) (bQT tB hb) ?_; clear HO651 HO657 HO660 HO663 HO666 HO670 HO673 BK648 HB; intro HO651 HO657 HO660 HO663 HO666 HO670 HO673 BK648 HB; (try clear hb); (try clear hb2); (try clear hk); (try clear hi)))
   go_meet
   case rel => exact ⟨_, (true), tS, H', ⟨tO⟩, ⟨by (with_reducible repeat (first | apply Kd.RqA | apply Kd.RqN | apply Kd.RqD)); exact Kd.R_mono HO651.out (fun _ hk => ⟨hk.1.1.1.1.2, ⟨hk.1.1.1.2, ⟨hk.1.1.2, ⟨hk.1.2, hk.2⟩⟩⟩⟩)⟩, ⟨by (with_reducible repeat (first | apply Kd.RqA | apply Kd.RqN | apply Kd.RqD)); exact Kd.R_mono HO660.out (fun _ hk => ⟨hk.1.1.1.1.2, ⟨hk.1.1.1.2, ⟨hk.1.1.2, ⟨hk.1.2, hk.2⟩⟩⟩⟩)⟩, ⟨by (with_reducible repeat (first | apply Kd.RqA | apply Kd.RqN | apply Kd.RqD)); exact Kd.R_mono HO663.out (fun _ hk => ⟨hk.1.1.1.2, ⟨hk.1.1.2, ⟨hk.1.1.1.1, ⟨hk.1.2, hk.2⟩⟩⟩⟩)⟩, ⟨by (with_reducible repeat (first | apply Kd.RqA | apply Kd.RqN | apply Kd.RqD)); exact Kd.R_mono HO666.out (fun _ hk => ⟨hk.1.1.1.2, ⟨hk.1.1.2, ⟨hk.1.1.1.1, ⟨hk.1.2, hk.2⟩⟩⟩⟩)⟩, ⟨by (with_reducible repeat (first | apply Kd.RqA | apply Kd.RqN | apply Kd.RqD)); exact Kd.R_mono HO670.out (fun _ hk => ⟨hk.1.1.1.2, ⟨hk.1.1.2, ⟨hk.1.2, ⟨hk.2, hk.1.1.1.1⟩⟩⟩⟩)⟩, ⟨by (with_reducible repeat (first | apply Kd.RqA | apply Kd.RqN | apply Kd.RqD)); exact Kd.R_mono HO673.out (fun _ hk => ⟨hk.1.1.1.2, ⟨hk.1.1.2, ⟨hk.1.2, ⟨hk.2, hk.1.1.1.1⟩⟩⟩⟩)⟩, ⟨tG BK648.out⟩, ⟨tB⟩⟩
  subst c72
  rw [if_pos rfl] at H
  obtain ⟨t677, A73, H⟩ := qBd H
  by_cases c74 : t677 = true
  ·subst c74
   rw [if_pos rfl] at H
   obtain ⟨t678, A75, H⟩ := qBd H
   replace H' := Aq.mk H
   clear H
   obtain ⟨Ao76, co76, eo76⟩ := Kd.R_slice HO666.out
   subst eo76
   obtain ⟨Ao77, co77, eo77⟩ := Kd.R_slice HO673.out
   subst eo77
   have hcz78_0 : w61.cell? ⟨gb648, 0, none⟩ = some (.int .i64 t646) := (kQC BK648.out 0).trans rfl
   have hcz78_1 : w61.cell? ⟨gb648, 1, none⟩ = some (.int .i64 t647) := (kQC BK648.out 1).trans rfl
   have hfz78_0 := kQF BK648.out 0
   have hfz78_1 := kQF BK648.out 1
   obtain ⟨Ao79, co79, eo79⟩ := Kd.R_slice HO663.out
   subst eo79
   go_wp2_with (first | (go_at_call 20; (with_reducible refine (spec_ValidLinear.calls k t646 t647 _ _ t661 true _ ?s1 ?s2 A69.out).mono ?_); (case s1 => exact tC ((Kd.R_reads' HO663.out).2.2)); (case s2 => exact (Kd.R_reads' HO663.out).2.1); rintro e w80 ⟨rfl, hb⟩; refine qM9 (Kd.R_below (tR HO651.out) hb) (Kd.R_below (tR HO657.out) hb) (Kd.R_below (tR HO660.out) hb) (Kd.R_below (tR HO663.out) hb) (Kd.R_below (tR HO666.out) hb) (Kd.R_below (tR HO670.out) hb) (Kd.R_below (tR HO673.out) hb) (tQ BK648.out hb) (bQT tB hb) ?_; clear HO651 HO657 HO660 HO663 HO666 HO670 HO673 BK648 HB; intro HO651 HO657 HO660 HO663 HO666 HO670 HO673 BK648 HB; (try clear hb); (try clear hb2); (try clear hk); (try clear hi); have hcz81_0 : w80.cell? ⟨gb648, 0, none⟩ = some (.int .i64 t646) := (kQC BK648.out 0).trans rfl; have hcz81_1 : w80.cell? ⟨gb648, 1, none⟩ = some (.int .i64 t647) := (kQC BK648.out 1).trans rfl; have hfz81_0 := kQF BK648.out 0; have hfz81_1 := kQF BK648.out 1; obtain ⟨Ao82, co82, eo82⟩ := Kd.R_slice HO670.out; subst eo82) | (go_at_call 20; (with_reducible refine (spec_ValidLinear.calls k t646 t647 _ _ t668 true _ ?s1 ?s2 A71.out).mono ?_); (case s1 => exact tC ((Kd.R_reads' HO670.out).2.2)); (case s2 => exact (Kd.R_reads' HO670.out).2.1); rintro e w83 ⟨rfl, hb⟩; refine qM9 (Kd.R_below (tR HO651.out) hb) (Kd.R_below (tR HO657.out) hb) (Kd.R_below (tR HO660.out) hb) (Kd.R_below (tR HO663.out) hb) (Kd.R_below (tR HO666.out) hb) (Kd.R_below (tR HO670.out) hb) (Kd.R_below (tR HO673.out) hb) (tQ BK648.out hb) (bQT tB hb) ?_; clear HO651 HO657 HO660 HO663 HO666 HO670 HO673 BK648 HB; intro HO651 HO657 HO660 HO663 HO666 HO670 HO673 BK648 HB; (try clear hb); (try clear hb2); (try clear hk); (try clear hi); have hcz84_0 : w83.cell? ⟨gb648, 0, none⟩ = some (.int .i64 t646) := (kQC BK648.out 0).trans rfl; have hcz84_1 : w83.cell? ⟨gb648, 1, none⟩ = some (.int .i64 t647) := (kQC BK648.out 1).trans rfl; have hfz84_0 := kQF BK648.out 0; have hfz84_1 := kQF BK648.out 1) | (go_at_call 20; (with_reducible refine (spec_ValidLinear.calls k t646 t647 _ _ t664 true _ ?s1 ?s2 A73.out).mono ?_); (case s1 => exact tC ((Kd.R_reads' HO666.out).2.2)); (case s2 => exact (Kd.R_reads' HO666.out).2.1); rintro e w85 ⟨rfl, hb⟩; refine qM9 (Kd.R_below (tR HO651.out) hb) (Kd.R_below (tR HO657.out) hb) (Kd.R_below (tR HO660.out) hb) (Kd.R_below (tR HO663.out) hb) (Kd.R_below (tR HO666.out) hb) (Kd.R_below (tR HO670.out) hb) (Kd.R_below (tR HO673.out) hb) (tQ BK648.out hb) (bQT tB hb) ?_; clear HO651 HO657 HO660 HO663 HO666 HO670 HO673 BK648 HB; intro HO651 HO657 HO660 HO663 HO666 HO670 HO673 BK648 HB; (try clear hb); (try clear hb2); (try clear hk); (try clear hi); have hcz86_0 : w85.cell? ⟨gb648, 0, none⟩ = some (.int .i64 t646) := (kQC BK648.out 0).trans rfl; have hcz86_1 : w85.cell? ⟨gb648, 1, none⟩ = some (.int .i64 t647) := (kQC BK648.out 1).trans rfl; have hfz86_0 := kQF BK648.out 0; have hfz86_1 := kQF BK648.out 1) | (go_at_call 20; (with_reducible refine (spec_ValidLinear.calls k t646 t647 _ _ t671 t678 _ ?s1 ?s2 A75.out).mono ?_); (case s1 => exact tC ((Kd.R_reads' HO673.out).2.2)); (case s2 => exact (Kd.R_reads' HO673.out).2.1); rintro e w87 ⟨rfl, hb⟩; refine qM9 (Kd.R_below (tR HO651.out) hb) (Kd.R_below (tR HO657.out) hb) (Kd.R_below (tR HO660.out) hb) (Kd.R_below (tR HO663.out) hb) (Kd.R_below (tR HO666.out) hb) (Kd.R_below (tR HO670.out) hb) (Kd.R_below (tR HO673.out) hb) (tQ BK648.out hb) (bQT tB hb) ?_; clear HO651 HO657 HO660 HO663 HO666 HO670 HO673 BK648 HB; intro HO651 HO657 HO660 HO663 HO666 HO670 HO673 BK648 HB; (try clear hb); (try clear hb2); (try clear hk); (try clear hi)))
   go_meet
   case rel => exact ⟨_, (!t678), tS, H', ⟨tO⟩, ⟨by (with_reducible repeat (first | apply Kd.RqA | apply Kd.RqN | apply Kd.RqD)); exact Kd.R_mono HO651.out (fun _ hk => ⟨hk.1.1.1.1.2, ⟨hk.1.1.1.2, ⟨hk.1.1.2, ⟨hk.1.2, hk.2⟩⟩⟩⟩)⟩, ⟨by (with_reducible repeat (first | apply Kd.RqA | apply Kd.RqN | apply Kd.RqD)); exact Kd.R_mono HO660.out (fun _ hk => ⟨hk.1.1.1.1.2, ⟨hk.1.1.1.2, ⟨hk.1.1.2, ⟨hk.1.2, hk.2⟩⟩⟩⟩)⟩, ⟨by (with_reducible repeat (first | apply Kd.RqA | apply Kd.RqN | apply Kd.RqD)); exact Kd.R_mono HO663.out (fun _ hk => ⟨hk.1.1.1.2, ⟨hk.1.1.2, ⟨hk.1.1.1.1, ⟨hk.1.2, hk.2⟩⟩⟩⟩)⟩, ⟨by (with_reducible repeat (first | apply Kd.RqA | apply Kd.RqN | apply Kd.RqD)); exact Kd.R_mono HO666.out (fun _ hk => ⟨hk.1.1.1.2, ⟨hk.1.1.2, ⟨hk.1.1.1.1, ⟨hk.1.2, hk.2⟩⟩⟩⟩)⟩, ⟨by (with_reducible repeat (first | apply Kd.RqA | apply Kd.RqN | apply Kd.RqD)); exact Kd.R_mono HO670.out (fun _ hk => ⟨hk.1.1.1.2, ⟨hk.1.1.2, ⟨hk.1.2, ⟨hk.2, hk.1.1.1.1⟩⟩⟩⟩)⟩, ⟨by (with_reducible repeat (first | apply Kd.RqA | apply Kd.RqN | apply Kd.RqD)); exact Kd.R_mono HO673.out (fun _ hk => ⟨hk.1.1.1.2, ⟨hk.1.1.2, ⟨hk.1.2, ⟨hk.2, hk.1.1.1.1⟩⟩⟩⟩)⟩, ⟨tG BK648.out⟩, ⟨tB⟩⟩
  replace c74 := Bool.eq_false_iff.mpr c74
  subst c74
  rw [if_neg (show ¬ (false = true) by decide)] at H
  replace H' := Aq.mk H
  clear H
  obtain ⟨Ao88, co88, eo88⟩ := Kd.R_slice HO666.out
  subst eo88
  obtain ⟨Ao89, co89, eo89⟩ := Kd.R_slice HO673.out
  subst eo89
  have hcz90_0 : w61.cell? ⟨gb648, 0, none⟩ = some (.int .i64 t646) := (kQC BK648.out 0).trans rfl
  have hcz90_1 : w61.cell? ⟨gb648, 1, none⟩ = some (.int .i64 t647) := (kQC BK648.out 1).trans rfl
  have hfz90_0 := kQF BK648.out 0
  have hfz90_1 := kQF BK648.out 1
  obtain ⟨Ao91, co91, eo91⟩ := Kd.R_slice HO663.out
  subst eo91
  go_wp2_with (first | (go_at_call 20; (with_reducible refine (spec_ValidLinear.calls k t646 t647 _ _ t661 true _ ?s1 ?s2 A69.out).mono ?_); (case s1 => exact tC ((Kd.R_reads' HO663.out).2.2)); (case s2 => exact (Kd.R_reads' HO663.out).2.1); rintro e w92 ⟨rfl, hb⟩; refine qM9 (Kd.R_below (tR HO651.out) hb) (Kd.R_below (tR HO657.out) hb) (Kd.R_below (tR HO660.out) hb) (Kd.R_below (tR HO663.out) hb) (Kd.R_below (tR HO666.out) hb) (Kd.R_below (tR HO670.out) hb) (Kd.R_below (tR HO673.out) hb) (tQ BK648.out hb) (bQT tB hb) ?_; clear HO651 HO657 HO660 HO663 HO666 HO670 HO673 BK648 HB; intro HO651 HO657 HO660 HO663 HO666 HO670 HO673 BK648 HB; (try clear hb); (try clear hb2); (try clear hk); (try clear hi); have hcz93_0 : w92.cell? ⟨gb648, 0, none⟩ = some (.int .i64 t646) := (kQC BK648.out 0).trans rfl; have hcz93_1 : w92.cell? ⟨gb648, 1, none⟩ = some (.int .i64 t647) := (kQC BK648.out 1).trans rfl; have hfz93_0 := kQF BK648.out 0; have hfz93_1 := kQF BK648.out 1; obtain ⟨Ao94, co94, eo94⟩ := Kd.R_slice HO670.out; subst eo94) | (go_at_call 20; (with_reducible refine (spec_ValidLinear.calls k t646 t647 _ _ t668 true _ ?s1 ?s2 A71.out).mono ?_); (case s1 => exact tC ((Kd.R_reads' HO670.out).2.2)); (case s2 => exact (Kd.R_reads' HO670.out).2.1); rintro e w95 ⟨rfl, hb⟩; refine qM9 (Kd.R_below (tR HO651.out) hb) (Kd.R_below (tR HO657.out) hb) (Kd.R_below (tR HO660.out) hb) (Kd.R_below (tR HO663.out) hb) (Kd.R_below (tR HO666.out) hb) (Kd.R_below (tR HO670.out) hb) (Kd.R_below (tR HO673.out) hb) (tQ BK648.out hb) (bQT tB hb) ?_; clear HO651 HO657 HO660 HO663 HO666 HO670 HO673 BK648 HB; intro HO651 HO657 HO660 HO663 HO666 HO670 HO673 BK648 HB; (try clear hb); (try clear hb2); (try clear hk); (try clear hi); have hcz96_0 : w95.cell? ⟨gb648, 0, none⟩ = some (.int .i64 t646) := (kQC BK648.out 0).trans rfl; have hcz96_1 : w95.cell? ⟨gb648, 1, none⟩ = some (.int .i64 t647) := (kQC BK648.out 1).trans rfl; have hfz96_0 := kQF BK648.out 0; have hfz96_1 := kQF BK648.out 1) | (go_at_call 20; (with_reducible refine (spec_ValidLinear.calls k t646 t647 _ _ t664 false _ ?s1 ?s2 A73.out).mono ?_); (case s1 => exact tC ((Kd.R_reads' HO666.out).2.2)); (case s2 => exact (Kd.R_reads' HO666.out).2.1); rintro e w97 ⟨rfl, hb⟩; refine qM9 (Kd.R_below (tR HO651.out) hb) (Kd.R_below (tR HO657.out) hb) (Kd.R_below (tR HO660.out) hb) (Kd.R_below (tR HO663.out) hb) (Kd.R_below (tR HO666.out) hb) (Kd.R_below (tR HO670.out) hb) (Kd.R_below (tR HO673.out) hb) (tQ BK648.out hb) (bQT tB hb) ?_; clear HO651 HO657 HO660 HO663 HO666 HO670 HO673 BK648 HB; intro HO651 HO657 HO660 HO663 HO666 HO670 HO673 BK648 HB; (try clear hb); (try clear hb2); (try clear hk); (try clear hi)))
  go_meet
  case rel => exact ⟨_, (true), tS, H', ⟨tO⟩, ⟨by (with_reducible repeat (first | apply Kd.RqA | apply Kd.RqN | apply Kd.RqD)); exact Kd.R_mono HO651.out (fun _ hk => ⟨hk.1.1.1.1.2, ⟨hk.1.1.1.2, ⟨hk.1.1.2, ⟨hk.1.2, hk.2⟩⟩⟩⟩)⟩, ⟨by (with_reducible repeat (first | apply Kd.RqA | apply Kd.RqN | apply Kd.RqD)); exact Kd.R_mono HO660.out (fun _ hk => ⟨hk.1.1.1.1.2, ⟨hk.1.1.1.2, ⟨hk.1.1.2, ⟨hk.1.2, hk.2⟩⟩⟩⟩)⟩, ⟨by (with_reducible repeat (first | apply Kd.RqA | apply Kd.RqN | apply Kd.RqD)); exact Kd.R_mono HO663.out (fun _ hk => ⟨hk.1.1.1.2, ⟨hk.1.1.2, ⟨hk.1.1.1.1, ⟨hk.1.2, hk.2⟩⟩⟩⟩)⟩, ⟨by (with_reducible repeat (first | apply Kd.RqA | apply Kd.RqN | apply Kd.RqD)); exact Kd.R_mono HO666.out (fun _ hk => ⟨hk.1.1.1.2, ⟨hk.1.1.2, ⟨hk.1.1.1.1, ⟨hk.1.2, hk.2⟩⟩⟩⟩)⟩, ⟨by (with_reducible repeat (first | apply Kd.RqA | apply Kd.RqN | apply Kd.RqD)); exact Kd.R_mono HO670.out (fun _ hk => ⟨hk.1.1.1.2, ⟨hk.1.1.2, ⟨hk.1.2, ⟨hk.2, hk.1.1.1.1⟩⟩⟩⟩)⟩, ⟨by (with_reducible repeat (first | apply Kd.RqA | apply Kd.RqN | apply Kd.RqD)); exact Kd.R_mono HO673.out (fun _ hk => ⟨hk.1.1.1.2, ⟨hk.1.1.2, ⟨hk.1.2, ⟨hk.2, hk.1.1.1.1⟩⟩⟩⟩)⟩, ⟨tG BK648.out⟩, ⟨tB⟩⟩
 clear HC45
 try clear c1
 try clear c7
 try clear c11
 try clear c11b0
 try clear c11b1
 try clear c11b2
 try clear c12
 try clear c12b0
 try clear c12b1
 try clear c62
 try clear c62b0
 try clear c62b1
 try clear c63
 try clear c63b0
 try clear c63b1
 try clear c64
 try clear c64b0
 try clear c64b1
 try clear c66
 try clear c66b0
 try clear c66b1
 try clear c70
 try clear c72
 try clear c74
 try clear hcz100_0
 try clear hcz100_1
 try clear hcz103_0
 try clear hcz103_1
 try clear hcz108_0
 try clear hcz108_1
 try clear hcz23_0
 try clear hcz23_1
 try clear hcz27_0
 try clear hcz27_1
 try clear hcz31_0
 try clear hcz31_1
 try clear hcz39_0
 try clear hcz39_1
 try clear hcz43_0
 try clear hcz43_1
 try clear hcz48_0
 try clear hcz48_1
 try clear hcz56_0
 try clear hcz56_1
 try clear hcz60_0
 try clear hcz60_1
 try clear hcz78_0
 try clear hcz78_1
 try clear hcz81_0
 try clear hcz81_1
 try clear hcz84_0
 try clear hcz84_1
 try clear hcz86_0
 try clear hcz86_1
 try clear hcz90_0
 try clear hcz90_1
 try clear hcz93_0
 try clear hcz93_1
 try clear hcz96_0
 try clear hcz96_1
 try clear hfz100_0
 try clear hfz100_1
 try clear hfz103_0
 try clear hfz103_1
 try clear hfz108_0
 try clear hfz108_1
 try clear hfz23_0
 try clear hfz23_1
 try clear hfz27_0
 try clear hfz27_1
 try clear hfz31_0
 try clear hfz31_1
 try clear hfz39_0
 try clear hfz39_1
 try clear hfz43_0
 try clear hfz43_1
 try clear hfz48_0
 try clear hfz48_1
 try clear hfz56_0
 try clear hfz56_1
 try clear hfz60_0
 try clear hfz60_1
 try clear hfz78_0
 try clear hfz78_1
 try clear hfz81_0
 try clear hfz81_1
 try clear hfz84_0
 try clear hfz84_1
 try clear hfz86_0
 try clear hfz86_1
 try clear hfz90_0
 try clear hfz90_1
 try clear hfz93_0
 try clear hfz93_1
 try clear hfz96_0
 try clear hfz96_1
 obtain ⟨kq, x103_44, rfl, HA, HJ44, HO_6, HO_7, HO_8, HO_9, HO_11, HO_12, BK648, HB⟩ := hcut
 cases kq with
 | zero => exact absurd HA.out (by simp [laws_FnDivisions.j0])
 | succ kj44 =>
  have H := HA.out
  clear HA
  simp only [laws_FnDivisions.j0] at H
  by_cases c111 : x103_44 = true
  ·subst c111
   rw [if_pos rfl] at H
   obtain rfl := Option.some.inj H
   go_wp2
   go_ret
   exact ⟨tE, tB⟩
  replace c111 := Bool.eq_false_iff.mpr c111
  subst c111
  rw [if_neg (show ¬ (false = true) by decide)] at H
  obtain ⟨⟨t679, t682⟩, A112, H⟩ := qBd H
  (try dsimp only at H)
  obtain ⟨⟨t683, t686⟩, A113, H⟩ := qBd H
  (try dsimp only at H)
  obtain ⟨⟨t687, t690⟩, A114, H⟩ := qBd H
  (try dsimp only at H)
  obtain ⟨⟨t691, t694⟩, A115, H⟩ := qBd H
  (try dsimp only at H)
  by_cases c116 : t682 = 0
  rotate_left
  ·rw [if_neg c116] at H
   have c116b0 := beq_eq_false_iff_ne.mpr c116
   have c116b1 := bne_iff_ne.mpr c116
   obtain rfl := Option.some.inj H
   have hcz196_0 : wc.cell? ⟨gb648, 0, none⟩ = some (.int .i64 t646) := (kQC BK648.out 0).trans rfl
   have hcz196_1 : wc.cell? ⟨gb648, 1, none⟩ = some (.int .i64 t647) := (kQC BK648.out 1).trans rfl
   have hfz196_0 := kQF BK648.out 0
   have hfz196_1 := kQF BK648.out 1
   obtain ⟨Ao197, co197, eo197⟩ := Kd.R_slice HO_8.out
   subst eo197
   go_wp2_with (first | ((with_reducible refine gQc (f := 21) rfl ?_); refine goesL_ (some 108) rfl rfl Try.func21 (by kernel_rfl) rfl #[.agg #[.int .i64 t646, .int .i64 t647], .slice Ao197 t661.length co197, .slice Ao58 t658.length co58] rfl tL ?_; (with_reducible refine (impl_ComposeLinear.calls kj44 t646 t647 (fun k_ => some k_ = (.slice Ao197 t661.length co197 : Value).ownBlock) _ _ t661 (fun k_ => some k_ = (.slice Ao58 t658.length co58 : Value).ownBlock) _ _ t658 t679 t682 _ ?s1 ?s2 A112.out).mono ?_); (case s1 => exact Kd.R_V (Kd.R_tight rfl (Kd.R_types (HO_8.out) BK648.out (by decide)))); (case s2 => exact Kd.R_V (Kd.R_tight rfl (Kd.R_types (HO_7.out) BK648.out (by decide)))); rintro e w198 ⟨v680, rfl, ho0, hb⟩; refine ⟨_, rfl, ?_⟩; refine qM9 (Kd.R_elder' (tR HO_6.out) (Kd.R_base ho0) hb) (Kd.R_elder' (tR HO_7.out) (Kd.R_base ho0) hb) (Kd.R_elder' (tR HO_8.out) (Kd.R_base ho0) hb) (Kd.R_elder' (tR HO_9.out) (Kd.R_base ho0) hb) (Kd.R_elder' (tR HO_11.out) (Kd.R_base ho0) hb) (Kd.R_elder' (tR HO_12.out) (Kd.R_base ho0) hb) (Kd.R_lower (Kd.R_new' (Kd.R_new' (Kd.R_new' (Kd.R_new' (Kd.R_new' (Kd.R_new' (Kd.R_mono (ok' := fun k_ => True) ho0 (fun _ hk_ => trivial)) (Kd.R_lt (tR HO_6.out))) (Kd.R_lt (tR HO_7.out))) (Kd.R_lt (tR HO_8.out))) (Kd.R_lt (tR HO_9.out))) (Kd.R_lt (tR HO_11.out))) (Kd.R_lt (tR HO_12.out))) (bQZ tB)) (tQ BK648.out hb) (bQT tB hb) ?_; clear HO_6 HO_7 HO_8 HO_9 HO_11 HO_12 BK648 HB; intro HO_6 HO_7 HO_8 HO_9 HO_11 HO_12 HO681 BK648 HB; (try clear hb); (try clear hb2); (try clear hk); (try clear hi); (try clear ho0); have hcz199_0 : w198.cell? ⟨gb648, 0, none⟩ = some (.int .i64 t646) := (kQC BK648.out 0).trans rfl; have hcz199_1 : w198.cell? ⟨gb648, 1, none⟩ = some (.int .i64 t647) := (kQC BK648.out 1).trans rfl; have hfz199_0 := kQF BK648.out 0; have hfz199_1 := kQF BK648.out 1; obtain ⟨Ao200, co200, eo200⟩ := Kd.R_slice HO_11.out; subst eo200) | ((with_reducible refine gQc (f := 21) rfl ?_); refine goesL_ (some 115) rfl rfl Try.func21 (by kernel_rfl) rfl #[.agg #[.int .i64 t646, .int .i64 t647], .slice Ao58 t658.length co58, .slice Ao200 t668.length co200] rfl tL ?_; (with_reducible refine (impl_ComposeLinear.calls kj44 t646 t647 (fun k_ => some k_ = (.slice Ao58 t658.length co58 : Value).ownBlock) _ _ t658 (fun k_ => some k_ = (.slice Ao200 t668.length co200 : Value).ownBlock) _ _ t668 t683 t686 _ ?s1 ?s2 A113.out).mono ?_); (case s1 => exact Kd.R_V (Kd.R_tight rfl (Kd.R_types (HO_7.out) BK648.out (by decide)))); (case s2 => exact Kd.R_V (Kd.R_tight rfl (Kd.R_types (HO_11.out) BK648.out (by decide)))); rintro e w201 ⟨v684, rfl, ho0, hb⟩; refine ⟨_, rfl, ?_⟩; refine qM10 (Kd.R_elder' (tR HO_6.out) (Kd.R_base ho0) hb) (Kd.R_elder' (tR HO_7.out) (Kd.R_base ho0) hb) (Kd.R_elder' (tR HO_8.out) (Kd.R_base ho0) hb) (Kd.R_elder' (tR HO_9.out) (Kd.R_base ho0) hb) (Kd.R_elder' (tR HO_11.out) (Kd.R_base ho0) hb) (Kd.R_elder' (tR HO_12.out) (Kd.R_base ho0) hb) (Kd.R_elder' (tR HO681.out) (Kd.R_base ho0) hb) (Kd.R_lower (Kd.R_new' (Kd.R_new' (Kd.R_new' (Kd.R_new' (Kd.R_new' (Kd.R_new' (Kd.R_new' (Kd.R_mono (ok' := fun k_ => True) ho0 (fun _ hk_ => trivial)) (Kd.R_lt (tR HO_6.out))) (Kd.R_lt (tR HO_7.out))) (Kd.R_lt (tR HO_8.out))) (Kd.R_lt (tR HO_9.out))) (Kd.R_lt (tR HO_11.out))) (Kd.R_lt (tR HO_12.out))) (Kd.R_lt (tR HO681.out))) (bQZ tB)) (tQ BK648.out hb) (bQT tB hb) ?_; clear HO_6 HO_7 HO_8 HO_9 HO_11 HO_12 HO681 BK648 HB; intro HO_6 HO_7 HO_8 HO_9 HO_11 HO_12 HO681 HO685 BK648 HB; (try clear hb); (try clear hb2); (try clear hk); (try clear hi); (try clear ho0); have hcz202_0 : w201.cell? ⟨gb648, 0, none⟩ = some (.int .i64 t646) := (kQC BK648.out 0).trans rfl; have hcz202_1 : w201.cell? ⟨gb648, 1, none⟩ = some (.int .i64 t647) := (kQC BK648.out 1).trans rfl; have hfz202_0 := kQF BK648.out 0; have hfz202_1 := kQF BK648.out 1; obtain ⟨Ao203, co203, eo203⟩ := Kd.R_slice HO681.out; subst eo203; obtain ⟨Ao204, co204, eo204⟩ := Kd.R_slice HO_9.out; subst eo204) | ((with_reducible refine gQc (f := 22) rfl ?_); refine goesL_ (some 122) rfl rfl Try.func22 (by kernel_rfl) rfl #[.agg #[.int .i64 t646, .int .i64 t647], .slice Ao203 t679.length co203, .slice Ao204 t664.length co204] rfl tL ?_; (with_reducible refine (impl_SumLinear.calls kj44 t646 t647 (fun k_ => some k_ = (.slice Ao203 t679.length co203 : Value).ownBlock) _ _ t679 (fun k_ => some k_ = (.slice Ao204 t664.length co204 : Value).ownBlock) _ _ t664 t687 t690 _ ?s1 ?s2 A114.out).mono ?_); (case s1 => exact Kd.R_V (Kd.R_tight rfl (Kd.R_types (HO681.out) BK648.out (by decide)))); (case s2 => exact Kd.R_V (Kd.R_tight rfl (Kd.R_types (HO_9.out) BK648.out (by decide)))); rintro e w205 ⟨v688, rfl, ho0, hb⟩; refine ⟨_, rfl, ?_⟩; refine qM11 (Kd.R_elder' (tR HO_6.out) (Kd.R_base ho0) hb) (Kd.R_elder' (tR HO_7.out) (Kd.R_base ho0) hb) (Kd.R_elder' (tR HO_8.out) (Kd.R_base ho0) hb) (Kd.R_elder' (tR HO_9.out) (Kd.R_base ho0) hb) (Kd.R_elder' (tR HO_11.out) (Kd.R_base ho0) hb) (Kd.R_elder' (tR HO_12.out) (Kd.R_base ho0) hb) (Kd.R_elder' (tR HO681.out) (Kd.R_base ho0) hb) (Kd.R_elder' (tR HO685.out) (Kd.R_base ho0) hb) (Kd.R_lower (Kd.R_new' (Kd.R_new' (Kd.R_new' (Kd.R_new' (Kd.R_new' (Kd.R_new' (Kd.R_new' (Kd.R_new' (Kd.R_mono (ok' := fun k_ => True) ho0 (fun _ hk_ => trivial)) (Kd.R_lt (tR HO_6.out))) (Kd.R_lt (tR HO_7.out))) (Kd.R_lt (tR HO_8.out))) (Kd.R_lt (tR HO_9.out))) (Kd.R_lt (tR HO_11.out))) (Kd.R_lt (tR HO_12.out))) (Kd.R_lt (tR HO681.out))) (Kd.R_lt (tR HO685.out))) (bQZ tB)) (tQ BK648.out hb) (bQT tB hb) ?_; clear HO_6 HO_7 HO_8 HO_9 HO_11 HO_12 HO681 HO685 BK648 HB; intro HO_6 HO_7 HO_8 HO_9 HO_11 HO_12 HO681 HO685 HO689 BK648 HB; (try clear hb); (try clear hb2); (try clear hk); (try clear hi); (try clear ho0); have hcz206_0 : w205.cell? ⟨gb648, 0, none⟩ = some (.int .i64 t646) := (kQC BK648.out 0).trans rfl; have hcz206_1 : w205.cell? ⟨gb648, 1, none⟩ = some (.int .i64 t647) := (kQC BK648.out 1).trans rfl; have hfz206_0 := kQF BK648.out 0; have hfz206_1 := kQF BK648.out 1; obtain ⟨Ao207, co207, eo207⟩ := Kd.R_slice HO685.out; subst eo207; obtain ⟨Ao208, co208, eo208⟩ := Kd.R_slice HO_12.out; subst eo208) | ((with_reducible refine gQc (f := 22) rfl ?_); refine goesL_ (some 129) rfl rfl Try.func22 (by kernel_rfl) rfl #[.agg #[.int .i64 t646, .int .i64 t647], .slice Ao207 t683.length co207, .slice Ao208 t671.length co208] rfl tL ?_; (with_reducible refine (impl_SumLinear.calls kj44 t646 t647 (fun k_ => some k_ = (.slice Ao207 t683.length co207 : Value).ownBlock) _ _ t683 (fun k_ => some k_ = (.slice Ao208 t671.length co208 : Value).ownBlock) _ _ t671 t691 t694 _ ?s1 ?s2 A115.out).mono ?_); (case s1 => exact Kd.R_V (Kd.R_tight rfl (Kd.R_types (HO685.out) BK648.out (by decide)))); (case s2 => exact Kd.R_V (Kd.R_tight rfl (Kd.R_types (HO_12.out) BK648.out (by decide)))); rintro e w209 ⟨v692, rfl, ho0, hb⟩; refine ⟨_, rfl, ?_⟩; refine qM12 (Kd.R_elder' (tR HO_6.out) (Kd.R_base ho0) hb) (Kd.R_elder' (tR HO_7.out) (Kd.R_base ho0) hb) (Kd.R_elder' (tR HO_8.out) (Kd.R_base ho0) hb) (Kd.R_elder' (tR HO_9.out) (Kd.R_base ho0) hb) (Kd.R_elder' (tR HO_11.out) (Kd.R_base ho0) hb) (Kd.R_elder' (tR HO_12.out) (Kd.R_base ho0) hb) (Kd.R_elder' (tR HO681.out) (Kd.R_base ho0) hb) (Kd.R_elder' (tR HO685.out) (Kd.R_base ho0) hb) (Kd.R_elder' (tR HO689.out) (Kd.R_base ho0) hb) (Kd.R_lower (Kd.R_new' (Kd.R_new' (Kd.R_new' (Kd.R_new' (Kd.R_new' (Kd.R_new' (Kd.R_new' (Kd.R_new' (Kd.R_new' (Kd.R_mono (ok' := fun k_ => True) ho0 (fun _ hk_ => trivial)) (Kd.R_lt (tR HO_6.out))) (Kd.R_lt (tR HO_7.out))) (Kd.R_lt (tR HO_8.out))) (Kd.R_lt (tR HO_9.out))) (Kd.R_lt (tR HO_11.out))) (Kd.R_lt (tR HO_12.out))) (Kd.R_lt (tR HO681.out))) (Kd.R_lt (tR HO685.out))) (Kd.R_lt (tR HO689.out))) (bQZ tB)) (tQ BK648.out hb) (bQT tB hb) ?_; clear HO_6 HO_7 HO_8 HO_9 HO_11 HO_12 HO681 HO685 HO689 BK648 HB; intro HO_6 HO_7 HO_8 HO_9 HO_11 HO_12 HO681 HO685 HO689 HO693 BK648 HB; (try clear hb); (try clear hb2); (try clear hk); (try clear hi); (try clear ho0)))
   go_ret
   exact ⟨tE, tB⟩
  rw [if_pos c116] at H
  have c116b0 := beq_iff_eq.mpr c116
  have c116b1 := bne_eq_false_iff_eq.mpr c116
  clear c116
  by_cases c117 : t686 = 0
  rotate_left
  ·rw [if_neg c117] at H
   have c117b0 := beq_eq_false_iff_ne.mpr c117
   have c117b1 := bne_iff_ne.mpr c117
   obtain rfl := Option.some.inj H
   have hcz182_0 : wc.cell? ⟨gb648, 0, none⟩ = some (.int .i64 t646) := (kQC BK648.out 0).trans rfl
   have hcz182_1 : wc.cell? ⟨gb648, 1, none⟩ = some (.int .i64 t647) := (kQC BK648.out 1).trans rfl
   have hfz182_0 := kQF BK648.out 0
   have hfz182_1 := kQF BK648.out 1
   obtain ⟨Ao183, co183, eo183⟩ := Kd.R_slice HO_8.out
   subst eo183
   go_wp2_with (first | ((with_reducible refine gQc (f := 21) rfl ?_); refine goesL_ (some 108) rfl rfl Try.func21 (by kernel_rfl) rfl #[.agg #[.int .i64 t646, .int .i64 t647], .slice Ao183 t661.length co183, .slice Ao58 t658.length co58] rfl tL ?_; (with_reducible refine (impl_ComposeLinear.calls kj44 t646 t647 (fun k_ => some k_ = (.slice Ao183 t661.length co183 : Value).ownBlock) _ _ t661 (fun k_ => some k_ = (.slice Ao58 t658.length co58 : Value).ownBlock) _ _ t658 t679 t682 _ ?s1 ?s2 A112.out).mono ?_); (case s1 => exact Kd.R_V (Kd.R_tight rfl (Kd.R_types (HO_8.out) BK648.out (by decide)))); (case s2 => exact Kd.R_V (Kd.R_tight rfl (Kd.R_types (HO_7.out) BK648.out (by decide)))); rintro e w184 ⟨v680, rfl, ho0, hb⟩; refine ⟨_, rfl, ?_⟩; refine qM9 (Kd.R_elder' (tR HO_6.out) (Kd.R_base ho0) hb) (Kd.R_elder' (tR HO_7.out) (Kd.R_base ho0) hb) (Kd.R_elder' (tR HO_8.out) (Kd.R_base ho0) hb) (Kd.R_elder' (tR HO_9.out) (Kd.R_base ho0) hb) (Kd.R_elder' (tR HO_11.out) (Kd.R_base ho0) hb) (Kd.R_elder' (tR HO_12.out) (Kd.R_base ho0) hb) (Kd.R_lower (Kd.R_new' (Kd.R_new' (Kd.R_new' (Kd.R_new' (Kd.R_new' (Kd.R_new' (Kd.R_mono (ok' := fun k_ => True) ho0 (fun _ hk_ => trivial)) (Kd.R_lt (tR HO_6.out))) (Kd.R_lt (tR HO_7.out))) (Kd.R_lt (tR HO_8.out))) (Kd.R_lt (tR HO_9.out))) (Kd.R_lt (tR HO_11.out))) (Kd.R_lt (tR HO_12.out))) (bQZ tB)) (tQ BK648.out hb) (bQT tB hb) ?_; clear HO_6 HO_7 HO_8 HO_9 HO_11 HO_12 BK648 HB; intro HO_6 HO_7 HO_8 HO_9 HO_11 HO_12 HO681 BK648 HB; (try clear hb); (try clear hb2); (try clear hk); (try clear hi); (try clear ho0); have hcz185_0 : w184.cell? ⟨gb648, 0, none⟩ = some (.int .i64 t646) := (kQC BK648.out 0).trans rfl; have hcz185_1 : w184.cell? ⟨gb648, 1, none⟩ = some (.int .i64 t647) := (kQC BK648.out 1).trans rfl; have hfz185_0 := kQF BK648.out 0; have hfz185_1 := kQF BK648.out 1; obtain ⟨Ao186, co186, eo186⟩ := Kd.R_slice HO_11.out; subst eo186) | ((with_reducible refine gQc (f := 21) rfl ?_); refine goesL_ (some 115) rfl rfl Try.func21 (by kernel_rfl) rfl #[.agg #[.int .i64 t646, .int .i64 t647], .slice Ao58 t658.length co58, .slice Ao186 t668.length co186] rfl tL ?_; (with_reducible refine (impl_ComposeLinear.calls kj44 t646 t647 (fun k_ => some k_ = (.slice Ao58 t658.length co58 : Value).ownBlock) _ _ t658 (fun k_ => some k_ = (.slice Ao186 t668.length co186 : Value).ownBlock) _ _ t668 t683 t686 _ ?s1 ?s2 A113.out).mono ?_); (case s1 => exact Kd.R_V (Kd.R_tight rfl (Kd.R_types (HO_7.out) BK648.out (by decide)))); (case s2 => exact Kd.R_V (Kd.R_tight rfl (Kd.R_types (HO_11.out) BK648.out (by decide)))); rintro e w187 ⟨v684, rfl, ho0, hb⟩; refine ⟨_, rfl, ?_⟩; refine qM10 (Kd.R_elder' (tR HO_6.out) (Kd.R_base ho0) hb) (Kd.R_elder' (tR HO_7.out) (Kd.R_base ho0) hb) (Kd.R_elder' (tR HO_8.out) (Kd.R_base ho0) hb) (Kd.R_elder' (tR HO_9.out) (Kd.R_base ho0) hb) (Kd.R_elder' (tR HO_11.out) (Kd.R_base ho0) hb) (Kd.R_elder' (tR HO_12.out) (Kd.R_base ho0) hb) (Kd.R_elder' (tR HO681.out) (Kd.R_base ho0) hb) (Kd.R_lower (Kd.R_new' (Kd.R_new' (Kd.R_new' (Kd.R_new' (Kd.R_new' (Kd.R_new' (Kd.R_new' (Kd.R_mono (ok' := fun k_ => True) ho0 (fun _ hk_ => trivial)) (Kd.R_lt (tR HO_6.out))) (Kd.R_lt (tR HO_7.out))) (Kd.R_lt (tR HO_8.out))) (Kd.R_lt (tR HO_9.out))) (Kd.R_lt (tR HO_11.out))) (Kd.R_lt (tR HO_12.out))) (Kd.R_lt (tR HO681.out))) (bQZ tB)) (tQ BK648.out hb) (bQT tB hb) ?_; clear HO_6 HO_7 HO_8 HO_9 HO_11 HO_12 HO681 BK648 HB; intro HO_6 HO_7 HO_8 HO_9 HO_11 HO_12 HO681 HO685 BK648 HB; (try clear hb); (try clear hb2); (try clear hk); (try clear hi); (try clear ho0); have hcz188_0 : w187.cell? ⟨gb648, 0, none⟩ = some (.int .i64 t646) := (kQC BK648.out 0).trans rfl; have hcz188_1 : w187.cell? ⟨gb648, 1, none⟩ = some (.int .i64 t647) := (kQC BK648.out 1).trans rfl; have hfz188_0 := kQF BK648.out 0; have hfz188_1 := kQF BK648.out 1; obtain ⟨Ao189, co189, eo189⟩ := Kd.R_slice HO681.out; subst eo189; obtain ⟨Ao190, co190, eo190⟩ := Kd.R_slice HO_9.out; subst eo190) | ((with_reducible refine gQc (f := 22) rfl ?_); refine goesL_ (some 122) rfl rfl Try.func22 (by kernel_rfl) rfl #[.agg #[.int .i64 t646, .int .i64 t647], .slice Ao189 t679.length co189, .slice Ao190 t664.length co190] rfl tL ?_; (with_reducible refine (impl_SumLinear.calls kj44 t646 t647 (fun k_ => some k_ = (.slice Ao189 t679.length co189 : Value).ownBlock) _ _ t679 (fun k_ => some k_ = (.slice Ao190 t664.length co190 : Value).ownBlock) _ _ t664 t687 t690 _ ?s1 ?s2 A114.out).mono ?_); (case s1 => exact Kd.R_V (Kd.R_tight rfl (Kd.R_types (HO681.out) BK648.out (by decide)))); (case s2 => exact Kd.R_V (Kd.R_tight rfl (Kd.R_types (HO_9.out) BK648.out (by decide)))); rintro e w191 ⟨v688, rfl, ho0, hb⟩; refine ⟨_, rfl, ?_⟩; refine qM11 (Kd.R_elder' (tR HO_6.out) (Kd.R_base ho0) hb) (Kd.R_elder' (tR HO_7.out) (Kd.R_base ho0) hb) (Kd.R_elder' (tR HO_8.out) (Kd.R_base ho0) hb) (Kd.R_elder' (tR HO_9.out) (Kd.R_base ho0) hb) (Kd.R_elder' (tR HO_11.out) (Kd.R_base ho0) hb) (Kd.R_elder' (tR HO_12.out) (Kd.R_base ho0) hb) (Kd.R_elder' (tR HO681.out) (Kd.R_base ho0) hb) (Kd.R_elder' (tR HO685.out) (Kd.R_base ho0) hb) (Kd.R_lower (Kd.R_new' (Kd.R_new' (Kd.R_new' (Kd.R_new' (Kd.R_new' (Kd.R_new' (Kd.R_new' (Kd.R_new' (Kd.R_mono (ok' := fun k_ => True) ho0 (fun _ hk_ => trivial)) (Kd.R_lt (tR HO_6.out))) (Kd.R_lt (tR HO_7.out))) (Kd.R_lt (tR HO_8.out))) (Kd.R_lt (tR HO_9.out))) (Kd.R_lt (tR HO_11.out))) (Kd.R_lt (tR HO_12.out))) (Kd.R_lt (tR HO681.out))) (Kd.R_lt (tR HO685.out))) (bQZ tB)) (tQ BK648.out hb) (bQT tB hb) ?_; clear HO_6 HO_7 HO_8 HO_9 HO_11 HO_12 HO681 HO685 BK648 HB; intro HO_6 HO_7 HO_8 HO_9 HO_11 HO_12 HO681 HO685 HO689 BK648 HB; (try clear hb); (try clear hb2); (try clear hk); (try clear hi); (try clear ho0); have hcz192_0 : w191.cell? ⟨gb648, 0, none⟩ = some (.int .i64 t646) := (kQC BK648.out 0).trans rfl; have hcz192_1 : w191.cell? ⟨gb648, 1, none⟩ = some (.int .i64 t647) := (kQC BK648.out 1).trans rfl; have hfz192_0 := kQF BK648.out 0; have hfz192_1 := kQF BK648.out 1; obtain ⟨Ao193, co193, eo193⟩ := Kd.R_slice HO685.out; subst eo193; obtain ⟨Ao194, co194, eo194⟩ := Kd.R_slice HO_12.out; subst eo194) | ((with_reducible refine gQc (f := 22) rfl ?_); refine goesL_ (some 129) rfl rfl Try.func22 (by kernel_rfl) rfl #[.agg #[.int .i64 t646, .int .i64 t647], .slice Ao193 t683.length co193, .slice Ao194 t671.length co194] rfl tL ?_; (with_reducible refine (impl_SumLinear.calls kj44 t646 t647 (fun k_ => some k_ = (.slice Ao193 t683.length co193 : Value).ownBlock) _ _ t683 (fun k_ => some k_ = (.slice Ao194 t671.length co194 : Value).ownBlock) _ _ t671 t691 t694 _ ?s1 ?s2 A115.out).mono ?_); (case s1 => exact Kd.R_V (Kd.R_tight rfl (Kd.R_types (HO685.out) BK648.out (by decide)))); (case s2 => exact Kd.R_V (Kd.R_tight rfl (Kd.R_types (HO_12.out) BK648.out (by decide)))); rintro e w195 ⟨v692, rfl, ho0, hb⟩; refine ⟨_, rfl, ?_⟩; refine qM12 (Kd.R_elder' (tR HO_6.out) (Kd.R_base ho0) hb) (Kd.R_elder' (tR HO_7.out) (Kd.R_base ho0) hb) (Kd.R_elder' (tR HO_8.out) (Kd.R_base ho0) hb) (Kd.R_elder' (tR HO_9.out) (Kd.R_base ho0) hb) (Kd.R_elder' (tR HO_11.out) (Kd.R_base ho0) hb) (Kd.R_elder' (tR HO_12.out) (Kd.R_base ho0) hb) (Kd.R_elder' (tR HO681.out) (Kd.R_base ho0) hb) (Kd.R_elder' (tR HO685.out) (Kd.R_base ho0) hb) (Kd.R_elder' (tR HO689.out) (Kd.R_base ho0) hb) (Kd.R_lower (Kd.R_new' (Kd.R_new' (Kd.R_new' (Kd.R_new' (Kd.R_new' (Kd.R_new' (Kd.R_new' (Kd.R_new' (Kd.R_new' (Kd.R_mono (ok' := fun k_ => True) ho0 (fun _ hk_ => trivial)) (Kd.R_lt (tR HO_6.out))) (Kd.R_lt (tR HO_7.out))) (Kd.R_lt (tR HO_8.out))) (Kd.R_lt (tR HO_9.out))) (Kd.R_lt (tR HO_11.out))) (Kd.R_lt (tR HO_12.out))) (Kd.R_lt (tR HO681.out))) (Kd.R_lt (tR HO685.out))) (Kd.R_lt (tR HO689.out))) (bQZ tB)) (tQ BK648.out hb) (bQT tB hb) ?_; clear HO_6 HO_7 HO_8 HO_9 HO_11 HO_12 HO681 HO685 HO689 BK648 HB; intro HO_6 HO_7 HO_8 HO_9 HO_11 HO_12 HO681 HO685 HO689 HO693 BK648 HB; (try clear hb); (try clear hb2); (try clear hk); (try clear hi); (try clear ho0)))
   go_ret
   exact ⟨tE, tB⟩
  rw [if_pos c117] at H
  have c117b0 := beq_iff_eq.mpr c117
  have c117b1 := bne_eq_false_iff_eq.mpr c117
  clear c117
  by_cases c118 : t690 = 0
  rotate_left
  ·rw [if_neg c118] at H
   have c118b0 := beq_eq_false_iff_ne.mpr c118
   have c118b1 := bne_iff_ne.mpr c118
   obtain rfl := Option.some.inj H
   have hcz168_0 : wc.cell? ⟨gb648, 0, none⟩ = some (.int .i64 t646) := (kQC BK648.out 0).trans rfl
   have hcz168_1 : wc.cell? ⟨gb648, 1, none⟩ = some (.int .i64 t647) := (kQC BK648.out 1).trans rfl
   have hfz168_0 := kQF BK648.out 0
   have hfz168_1 := kQF BK648.out 1
   obtain ⟨Ao169, co169, eo169⟩ := Kd.R_slice HO_8.out
   subst eo169
   go_wp2_with (first | ((with_reducible refine gQc (f := 21) rfl ?_); refine goesL_ (some 108) rfl rfl Try.func21 (by kernel_rfl) rfl #[.agg #[.int .i64 t646, .int .i64 t647], .slice Ao169 t661.length co169, .slice Ao58 t658.length co58] rfl tL ?_; (with_reducible refine (impl_ComposeLinear.calls kj44 t646 t647 (fun k_ => some k_ = (.slice Ao169 t661.length co169 : Value).ownBlock) _ _ t661 (fun k_ => some k_ = (.slice Ao58 t658.length co58 : Value).ownBlock) _ _ t658 t679 t682 _ ?s1 ?s2 A112.out).mono ?_); (case s1 => exact Kd.R_V (Kd.R_tight rfl (Kd.R_types (HO_8.out) BK648.out (by decide)))); (case s2 => exact Kd.R_V (Kd.R_tight rfl (Kd.R_types (HO_7.out) BK648.out (by decide)))); rintro e w170 ⟨v680, rfl, ho0, hb⟩; refine ⟨_, rfl, ?_⟩; refine qM9 (Kd.R_elder' (tR HO_6.out) (Kd.R_base ho0) hb) (Kd.R_elder' (tR HO_7.out) (Kd.R_base ho0) hb) (Kd.R_elder' (tR HO_8.out) (Kd.R_base ho0) hb) (Kd.R_elder' (tR HO_9.out) (Kd.R_base ho0) hb) (Kd.R_elder' (tR HO_11.out) (Kd.R_base ho0) hb) (Kd.R_elder' (tR HO_12.out) (Kd.R_base ho0) hb) (Kd.R_lower (Kd.R_new' (Kd.R_new' (Kd.R_new' (Kd.R_new' (Kd.R_new' (Kd.R_new' (Kd.R_mono (ok' := fun k_ => True) ho0 (fun _ hk_ => trivial)) (Kd.R_lt (tR HO_6.out))) (Kd.R_lt (tR HO_7.out))) (Kd.R_lt (tR HO_8.out))) (Kd.R_lt (tR HO_9.out))) (Kd.R_lt (tR HO_11.out))) (Kd.R_lt (tR HO_12.out))) (bQZ tB)) (tQ BK648.out hb) (bQT tB hb) ?_; clear HO_6 HO_7 HO_8 HO_9 HO_11 HO_12 BK648 HB; intro HO_6 HO_7 HO_8 HO_9 HO_11 HO_12 HO681 BK648 HB; (try clear hb); (try clear hb2); (try clear hk); (try clear hi); (try clear ho0); have hcz171_0 : w170.cell? ⟨gb648, 0, none⟩ = some (.int .i64 t646) := (kQC BK648.out 0).trans rfl; have hcz171_1 : w170.cell? ⟨gb648, 1, none⟩ = some (.int .i64 t647) := (kQC BK648.out 1).trans rfl; have hfz171_0 := kQF BK648.out 0; have hfz171_1 := kQF BK648.out 1; obtain ⟨Ao172, co172, eo172⟩ := Kd.R_slice HO_11.out; subst eo172) | ((with_reducible refine gQc (f := 21) rfl ?_); refine goesL_ (some 115) rfl rfl Try.func21 (by kernel_rfl) rfl #[.agg #[.int .i64 t646, .int .i64 t647], .slice Ao58 t658.length co58, .slice Ao172 t668.length co172] rfl tL ?_; (with_reducible refine (impl_ComposeLinear.calls kj44 t646 t647 (fun k_ => some k_ = (.slice Ao58 t658.length co58 : Value).ownBlock) _ _ t658 (fun k_ => some k_ = (.slice Ao172 t668.length co172 : Value).ownBlock) _ _ t668 t683 t686 _ ?s1 ?s2 A113.out).mono ?_); (case s1 => exact Kd.R_V (Kd.R_tight rfl (Kd.R_types (HO_7.out) BK648.out (by decide)))); (case s2 => exact Kd.R_V (Kd.R_tight rfl (Kd.R_types (HO_11.out) BK648.out (by decide)))); rintro e w173 ⟨v684, rfl, ho0, hb⟩; refine ⟨_, rfl, ?_⟩; refine qM10 (Kd.R_elder' (tR HO_6.out) (Kd.R_base ho0) hb) (Kd.R_elder' (tR HO_7.out) (Kd.R_base ho0) hb) (Kd.R_elder' (tR HO_8.out) (Kd.R_base ho0) hb) (Kd.R_elder' (tR HO_9.out) (Kd.R_base ho0) hb) (Kd.R_elder' (tR HO_11.out) (Kd.R_base ho0) hb) (Kd.R_elder' (tR HO_12.out) (Kd.R_base ho0) hb) (Kd.R_elder' (tR HO681.out) (Kd.R_base ho0) hb) (Kd.R_lower (Kd.R_new' (Kd.R_new' (Kd.R_new' (Kd.R_new' (Kd.R_new' (Kd.R_new' (Kd.R_new' (Kd.R_mono (ok' := fun k_ => True) ho0 (fun _ hk_ => trivial)) (Kd.R_lt (tR HO_6.out))) (Kd.R_lt (tR HO_7.out))) (Kd.R_lt (tR HO_8.out))) (Kd.R_lt (tR HO_9.out))) (Kd.R_lt (tR HO_11.out))) (Kd.R_lt (tR HO_12.out))) (Kd.R_lt (tR HO681.out))) (bQZ tB)) (tQ BK648.out hb) (bQT tB hb) ?_; clear HO_6 HO_7 HO_8 HO_9 HO_11 HO_12 HO681 BK648 HB; intro HO_6 HO_7 HO_8 HO_9 HO_11 HO_12 HO681 HO685 BK648 HB; (try clear hb); (try clear hb2); (try clear hk); (try clear hi); (try clear ho0); have hcz174_0 : w173.cell? ⟨gb648, 0, none⟩ = some (.int .i64 t646) := (kQC BK648.out 0).trans rfl; have hcz174_1 : w173.cell? ⟨gb648, 1, none⟩ = some (.int .i64 t647) := (kQC BK648.out 1).trans rfl; have hfz174_0 := kQF BK648.out 0; have hfz174_1 := kQF BK648.out 1; obtain ⟨Ao175, co175, eo175⟩ := Kd.R_slice HO681.out; subst eo175; obtain ⟨Ao176, co176, eo176⟩ := Kd.R_slice HO_9.out; subst eo176) | ((with_reducible refine gQc (f := 22) rfl ?_); refine goesL_ (some 122) rfl rfl Try.func22 (by kernel_rfl) rfl #[.agg #[.int .i64 t646, .int .i64 t647], .slice Ao175 t679.length co175, .slice Ao176 t664.length co176] rfl tL ?_; (with_reducible refine (impl_SumLinear.calls kj44 t646 t647 (fun k_ => some k_ = (.slice Ao175 t679.length co175 : Value).ownBlock) _ _ t679 (fun k_ => some k_ = (.slice Ao176 t664.length co176 : Value).ownBlock) _ _ t664 t687 t690 _ ?s1 ?s2 A114.out).mono ?_); (case s1 => exact Kd.R_V (Kd.R_tight rfl (Kd.R_types (HO681.out) BK648.out (by decide)))); (case s2 => exact Kd.R_V (Kd.R_tight rfl (Kd.R_types (HO_9.out) BK648.out (by decide)))); rintro e w177 ⟨v688, rfl, ho0, hb⟩; refine ⟨_, rfl, ?_⟩; refine qM11 (Kd.R_elder' (tR HO_6.out) (Kd.R_base ho0) hb) (Kd.R_elder' (tR HO_7.out) (Kd.R_base ho0) hb) (Kd.R_elder' (tR HO_8.out) (Kd.R_base ho0) hb) (Kd.R_elder' (tR HO_9.out) (Kd.R_base ho0) hb) (Kd.R_elder' (tR HO_11.out) (Kd.R_base ho0) hb) (Kd.R_elder' (tR HO_12.out) (Kd.R_base ho0) hb) (Kd.R_elder' (tR HO681.out) (Kd.R_base ho0) hb) (Kd.R_elder' (tR HO685.out) (Kd.R_base ho0) hb) (Kd.R_lower (Kd.R_new' (Kd.R_new' (Kd.R_new' (Kd.R_new' (Kd.R_new' (Kd.R_new' (Kd.R_new' (Kd.R_new' (Kd.R_mono (ok' := fun k_ => True) ho0 (fun _ hk_ => trivial)) (Kd.R_lt (tR HO_6.out))) (Kd.R_lt (tR HO_7.out))) (Kd.R_lt (tR HO_8.out))) (Kd.R_lt (tR HO_9.out))) (Kd.R_lt (tR HO_11.out))) (Kd.R_lt (tR HO_12.out))) (Kd.R_lt (tR HO681.out))) (Kd.R_lt (tR HO685.out))) (bQZ tB)) (tQ BK648.out hb) (bQT tB hb) ?_; clear HO_6 HO_7 HO_8 HO_9 HO_11 HO_12 HO681 HO685 BK648 HB; intro HO_6 HO_7 HO_8 HO_9 HO_11 HO_12 HO681 HO685 HO689 BK648 HB; (try clear hb); (try clear hb2); (try clear hk); (try clear hi); (try clear ho0); have hcz178_0 : w177.cell? ⟨gb648, 0, none⟩ = some (.int .i64 t646) := (kQC BK648.out 0).trans rfl; have hcz178_1 : w177.cell? ⟨gb648, 1, none⟩ = some (.int .i64 t647) := (kQC BK648.out 1).trans rfl; have hfz178_0 := kQF BK648.out 0; have hfz178_1 := kQF BK648.out 1; obtain ⟨Ao179, co179, eo179⟩ := Kd.R_slice HO685.out; subst eo179; obtain ⟨Ao180, co180, eo180⟩ := Kd.R_slice HO_12.out; subst eo180) | ((with_reducible refine gQc (f := 22) rfl ?_); refine goesL_ (some 129) rfl rfl Try.func22 (by kernel_rfl) rfl #[.agg #[.int .i64 t646, .int .i64 t647], .slice Ao179 t683.length co179, .slice Ao180 t671.length co180] rfl tL ?_; (with_reducible refine (impl_SumLinear.calls kj44 t646 t647 (fun k_ => some k_ = (.slice Ao179 t683.length co179 : Value).ownBlock) _ _ t683 (fun k_ => some k_ = (.slice Ao180 t671.length co180 : Value).ownBlock) _ _ t671 t691 t694 _ ?s1 ?s2 A115.out).mono ?_); (case s1 => exact Kd.R_V (Kd.R_tight rfl (Kd.R_types (HO685.out) BK648.out (by decide)))); (case s2 => exact Kd.R_V (Kd.R_tight rfl (Kd.R_types (HO_12.out) BK648.out (by decide)))); rintro e w181 ⟨v692, rfl, ho0, hb⟩; refine ⟨_, rfl, ?_⟩; refine qM12 (Kd.R_elder' (tR HO_6.out) (Kd.R_base ho0) hb) (Kd.R_elder' (tR HO_7.out) (Kd.R_base ho0) hb) (Kd.R_elder' (tR HO_8.out) (Kd.R_base ho0) hb) (Kd.R_elder' (tR HO_9.out) (Kd.R_base ho0) hb) (Kd.R_elder' (tR HO_11.out) (Kd.R_base ho0) hb) (Kd.R_elder' (tR HO_12.out) (Kd.R_base ho0) hb) (Kd.R_elder' (tR HO681.out) (Kd.R_base ho0) hb) (Kd.R_elder' (tR HO685.out) (Kd.R_base ho0) hb) (Kd.R_elder' (tR HO689.out) (Kd.R_base ho0) hb) (Kd.R_lower (Kd.R_new' (Kd.R_new' (Kd.R_new' (Kd.R_new' (Kd.R_new' (Kd.R_new' (Kd.R_new' (Kd.R_new' (Kd.R_new' (Kd.R_mono (ok' := fun k_ => True) ho0 (fun _ hk_ => trivial)) (Kd.R_lt (tR HO_6.out))) (Kd.R_lt (tR HO_7.out))) (Kd.R_lt (tR HO_8.out))) (Kd.R_lt (tR HO_9.out))) (Kd.R_lt (tR HO_11.out))) (Kd.R_lt (tR HO_12.out))) (Kd.R_lt (tR HO681.out))) (Kd.R_lt (tR HO685.out))) (Kd.R_lt (tR HO689.out))) (bQZ tB)) (tQ BK648.out hb) (bQT tB hb) ?_; clear HO_6 HO_7 HO_8 HO_9 HO_11 HO_12 HO681 HO685 HO689 BK648 HB; intro HO_6 HO_7 HO_8 HO_9 HO_11 HO_12 HO681 HO685 HO689 HO693 BK648 HB; (try clear hb); (try clear hb2); (try clear hk); (try clear hi); (try clear ho0)))
   go_ret
   exact ⟨tE, tB⟩
  rw [if_pos c118] at H
  have c118b0 := beq_iff_eq.mpr c118
  have c118b1 := bne_eq_false_iff_eq.mpr c118
  clear c118
  by_cases c119 : t694 = 0
  rotate_left
  ·rw [if_neg c119] at H
   have c119b0 := beq_eq_false_iff_ne.mpr c119
   have c119b1 := bne_iff_ne.mpr c119
   obtain rfl := Option.some.inj H
   have hcz154_0 : wc.cell? ⟨gb648, 0, none⟩ = some (.int .i64 t646) := (kQC BK648.out 0).trans rfl
   have hcz154_1 : wc.cell? ⟨gb648, 1, none⟩ = some (.int .i64 t647) := (kQC BK648.out 1).trans rfl
   have hfz154_0 := kQF BK648.out 0
   have hfz154_1 := kQF BK648.out 1
   obtain ⟨Ao155, co155, eo155⟩ := Kd.R_slice HO_8.out
   subst eo155
   go_wp2_with (first | ((with_reducible refine gQc (f := 21) rfl ?_); refine goesL_ (some 108) rfl rfl Try.func21 (by kernel_rfl) rfl #[.agg #[.int .i64 t646, .int .i64 t647], .slice Ao155 t661.length co155, .slice Ao58 t658.length co58] rfl tL ?_; (with_reducible refine (impl_ComposeLinear.calls kj44 t646 t647 (fun k_ => some k_ = (.slice Ao155 t661.length co155 : Value).ownBlock) _ _ t661 (fun k_ => some k_ = (.slice Ao58 t658.length co58 : Value).ownBlock) _ _ t658 t679 t682 _ ?s1 ?s2 A112.out).mono ?_); (case s1 => exact Kd.R_V (Kd.R_tight rfl (Kd.R_types (HO_8.out) BK648.out (by decide)))); (case s2 => exact Kd.R_V (Kd.R_tight rfl (Kd.R_types (HO_7.out) BK648.out (by decide)))); rintro e w156 ⟨v680, rfl, ho0, hb⟩; refine ⟨_, rfl, ?_⟩; refine qM9 (Kd.R_elder' (tR HO_6.out) (Kd.R_base ho0) hb) (Kd.R_elder' (tR HO_7.out) (Kd.R_base ho0) hb) (Kd.R_elder' (tR HO_8.out) (Kd.R_base ho0) hb) (Kd.R_elder' (tR HO_9.out) (Kd.R_base ho0) hb) (Kd.R_elder' (tR HO_11.out) (Kd.R_base ho0) hb) (Kd.R_elder' (tR HO_12.out) (Kd.R_base ho0) hb) (Kd.R_lower (Kd.R_new' (Kd.R_new' (Kd.R_new' (Kd.R_new' (Kd.R_new' (Kd.R_new' (Kd.R_mono (ok' := fun k_ => True) ho0 (fun _ hk_ => trivial)) (Kd.R_lt (tR HO_6.out))) (Kd.R_lt (tR HO_7.out))) (Kd.R_lt (tR HO_8.out))) (Kd.R_lt (tR HO_9.out))) (Kd.R_lt (tR HO_11.out))) (Kd.R_lt (tR HO_12.out))) (bQZ tB)) (tQ BK648.out hb) (bQT tB hb) ?_; clear HO_6 HO_7 HO_8 HO_9 HO_11 HO_12 BK648 HB; intro HO_6 HO_7 HO_8 HO_9 HO_11 HO_12 HO681 BK648 HB; (try clear hb); (try clear hb2); (try clear hk); (try clear hi); (try clear ho0); have hcz157_0 : w156.cell? ⟨gb648, 0, none⟩ = some (.int .i64 t646) := (kQC BK648.out 0).trans rfl; have hcz157_1 : w156.cell? ⟨gb648, 1, none⟩ = some (.int .i64 t647) := (kQC BK648.out 1).trans rfl; have hfz157_0 := kQF BK648.out 0; have hfz157_1 := kQF BK648.out 1; obtain ⟨Ao158, co158, eo158⟩ := Kd.R_slice HO_11.out; subst eo158) | ((with_reducible refine gQc (f := 21) rfl ?_); refine goesL_ (some 115) rfl rfl Try.func21 (by kernel_rfl) rfl #[.agg #[.int .i64 t646, .int .i64 t647], .slice Ao58 t658.length co58, .slice Ao158 t668.length co158] rfl tL ?_; (with_reducible refine (impl_ComposeLinear.calls kj44 t646 t647 (fun k_ => some k_ = (.slice Ao58 t658.length co58 : Value).ownBlock) _ _ t658 (fun k_ => some k_ = (.slice Ao158 t668.length co158 : Value).ownBlock) _ _ t668 t683 t686 _ ?s1 ?s2 A113.out).mono ?_); (case s1 => exact Kd.R_V (Kd.R_tight rfl (Kd.R_types (HO_7.out) BK648.out (by decide)))); (case s2 => exact Kd.R_V (Kd.R_tight rfl (Kd.R_types (HO_11.out) BK648.out (by decide)))); rintro e w159 ⟨v684, rfl, ho0, hb⟩; refine ⟨_, rfl, ?_⟩; refine qM10 (Kd.R_elder' (tR HO_6.out) (Kd.R_base ho0) hb) (Kd.R_elder' (tR HO_7.out) (Kd.R_base ho0) hb) (Kd.R_elder' (tR HO_8.out) (Kd.R_base ho0) hb) (Kd.R_elder' (tR HO_9.out) (Kd.R_base ho0) hb) (Kd.R_elder' (tR HO_11.out) (Kd.R_base ho0) hb) (Kd.R_elder' (tR HO_12.out) (Kd.R_base ho0) hb) (Kd.R_elder' (tR HO681.out) (Kd.R_base ho0) hb) (Kd.R_lower (Kd.R_new' (Kd.R_new' (Kd.R_new' (Kd.R_new' (Kd.R_new' (Kd.R_new' (Kd.R_new' (Kd.R_mono (ok' := fun k_ => True) ho0 (fun _ hk_ => trivial)) (Kd.R_lt (tR HO_6.out))) (Kd.R_lt (tR HO_7.out))) (Kd.R_lt (tR HO_8.out))) (Kd.R_lt (tR HO_9.out))) (Kd.R_lt (tR HO_11.out))) (Kd.R_lt (tR HO_12.out))) (Kd.R_lt (tR HO681.out))) (bQZ tB)) (tQ BK648.out hb) (bQT tB hb) ?_; clear HO_6 HO_7 HO_8 HO_9 HO_11 HO_12 HO681 BK648 HB; intro HO_6 HO_7 HO_8 HO_9 HO_11 HO_12 HO681 HO685 BK648 HB; (try clear hb); (try clear hb2); (try clear hk); (try clear hi); (try clear ho0); have hcz160_0 : w159.cell? ⟨gb648, 0, none⟩ = some (.int .i64 t646) := (kQC BK648.out 0).trans rfl; have hcz160_1 : w159.cell? ⟨gb648, 1, none⟩ = some (.int .i64 t647) := (kQC BK648.out 1).trans rfl; have hfz160_0 := kQF BK648.out 0; have hfz160_1 := kQF BK648.out 1; obtain ⟨Ao161, co161, eo161⟩ := Kd.R_slice HO681.out; subst eo161; obtain ⟨Ao162, co162, eo162⟩ := Kd.R_slice HO_9.out; subst eo162) | ((with_reducible refine gQc (f := 22) rfl ?_); refine goesL_ (some 122) rfl rfl Try.func22 (by kernel_rfl) rfl #[.agg #[.int .i64 t646, .int .i64 t647], .slice Ao161 t679.length co161, .slice Ao162 t664.length co162] rfl tL ?_; (with_reducible refine (impl_SumLinear.calls kj44 t646 t647 (fun k_ => some k_ = (.slice Ao161 t679.length co161 : Value).ownBlock) _ _ t679 (fun k_ => some k_ = (.slice Ao162 t664.length co162 : Value).ownBlock) _ _ t664 t687 t690 _ ?s1 ?s2 A114.out).mono ?_); (case s1 => exact Kd.R_V (Kd.R_tight rfl (Kd.R_types (HO681.out) BK648.out (by decide)))); (case s2 => exact Kd.R_V (Kd.R_tight rfl (Kd.R_types (HO_9.out) BK648.out (by decide)))); rintro e w163 ⟨v688, rfl, ho0, hb⟩; refine ⟨_, rfl, ?_⟩; refine qM11 (Kd.R_elder' (tR HO_6.out) (Kd.R_base ho0) hb) (Kd.R_elder' (tR HO_7.out) (Kd.R_base ho0) hb) (Kd.R_elder' (tR HO_8.out) (Kd.R_base ho0) hb) (Kd.R_elder' (tR HO_9.out) (Kd.R_base ho0) hb) (Kd.R_elder' (tR HO_11.out) (Kd.R_base ho0) hb) (Kd.R_elder' (tR HO_12.out) (Kd.R_base ho0) hb) (Kd.R_elder' (tR HO681.out) (Kd.R_base ho0) hb) (Kd.R_elder' (tR HO685.out) (Kd.R_base ho0) hb) (Kd.R_lower (Kd.R_new' (Kd.R_new' (Kd.R_new' (Kd.R_new' (Kd.R_new' (Kd.R_new' (Kd.R_new' (Kd.R_new' (Kd.R_mono (ok' := fun k_ => True) ho0 (fun _ hk_ => trivial)) (Kd.R_lt (tR HO_6.out))) (Kd.R_lt (tR HO_7.out))) (Kd.R_lt (tR HO_8.out))) (Kd.R_lt (tR HO_9.out))) (Kd.R_lt (tR HO_11.out))) (Kd.R_lt (tR HO_12.out))) (Kd.R_lt (tR HO681.out))) (Kd.R_lt (tR HO685.out))) (bQZ tB)) (tQ BK648.out hb) (bQT tB hb) ?_; clear HO_6 HO_7 HO_8 HO_9 HO_11 HO_12 HO681 HO685 BK648 HB; intro HO_6 HO_7 HO_8 HO_9 HO_11 HO_12 HO681 HO685 HO689 BK648 HB; (try clear hb); (try clear hb2); (try clear hk); (try clear hi); (try clear ho0); have hcz164_0 : w163.cell? ⟨gb648, 0, none⟩ = some (.int .i64 t646) := (kQC BK648.out 0).trans rfl; have hcz164_1 : w163.cell? ⟨gb648, 1, none⟩ = some (.int .i64 t647) := (kQC BK648.out 1).trans rfl; have hfz164_0 := kQF BK648.out 0; have hfz164_1 := kQF BK648.out 1; obtain ⟨Ao165, co165, eo165⟩ := Kd.R_slice HO685.out; subst eo165; obtain ⟨Ao166, co166, eo166⟩ := Kd.R_slice HO_12.out; subst eo166) | ((with_reducible refine gQc (f := 22) rfl ?_); refine goesL_ (some 129) rfl rfl Try.func22 (by kernel_rfl) rfl #[.agg #[.int .i64 t646, .int .i64 t647], .slice Ao165 t683.length co165, .slice Ao166 t671.length co166] rfl tL ?_; (with_reducible refine (impl_SumLinear.calls kj44 t646 t647 (fun k_ => some k_ = (.slice Ao165 t683.length co165 : Value).ownBlock) _ _ t683 (fun k_ => some k_ = (.slice Ao166 t671.length co166 : Value).ownBlock) _ _ t671 t691 t694 _ ?s1 ?s2 A115.out).mono ?_); (case s1 => exact Kd.R_V (Kd.R_tight rfl (Kd.R_types (HO685.out) BK648.out (by decide)))); (case s2 => exact Kd.R_V (Kd.R_tight rfl (Kd.R_types (HO_12.out) BK648.out (by decide)))); rintro e w167 ⟨v692, rfl, ho0, hb⟩; refine ⟨_, rfl, ?_⟩; refine qM12 (Kd.R_elder' (tR HO_6.out) (Kd.R_base ho0) hb) (Kd.R_elder' (tR HO_7.out) (Kd.R_base ho0) hb) (Kd.R_elder' (tR HO_8.out) (Kd.R_base ho0) hb) (Kd.R_elder' (tR HO_9.out) (Kd.R_base ho0) hb) (Kd.R_elder' (tR HO_11.out) (Kd.R_base ho0) hb) (Kd.R_elder' (tR HO_12.out) (Kd.R_base ho0) hb) (Kd.R_elder' (tR HO681.out) (Kd.R_base ho0) hb) (Kd.R_elder' (tR HO685.out) (Kd.R_base ho0) hb) (Kd.R_elder' (tR HO689.out) (Kd.R_base ho0) hb) (Kd.R_lower (Kd.R_new' (Kd.R_new' (Kd.R_new' (Kd.R_new' (Kd.R_new' (Kd.R_new' (Kd.R_new' (Kd.R_new' (Kd.R_new' (Kd.R_mono (ok' := fun k_ => True) ho0 (fun _ hk_ => trivial)) (Kd.R_lt (tR HO_6.out))) (Kd.R_lt (tR HO_7.out))) (Kd.R_lt (tR HO_8.out))) (Kd.R_lt (tR HO_9.out))) (Kd.R_lt (tR HO_11.out))) (Kd.R_lt (tR HO_12.out))) (Kd.R_lt (tR HO681.out))) (Kd.R_lt (tR HO685.out))) (Kd.R_lt (tR HO689.out))) (bQZ tB)) (tQ BK648.out hb) (bQT tB hb) ?_; clear HO_6 HO_7 HO_8 HO_9 HO_11 HO_12 HO681 HO685 HO689 BK648 HB; intro HO_6 HO_7 HO_8 HO_9 HO_11 HO_12 HO681 HO685 HO689 HO693 BK648 HB; (try clear hb); (try clear hb2); (try clear hk); (try clear hi); (try clear ho0)))
   go_ret
   exact ⟨tE, tB⟩
  rw [if_pos c119] at H
  have c119b0 := beq_iff_eq.mpr c119
  have c119b1 := bne_eq_false_iff_eq.mpr c119
  clear c119
  obtain ⟨t695, A120, H⟩ := qBd H
  by_cases c121 : t695 = true
  ·subst c121
   rw [if_pos rfl] at H
   obtain ⟨t696, A122, H⟩ := qBd H
   obtain rfl := Option.some.inj H
   have hcz123_0 : wc.cell? ⟨gb648, 0, none⟩ = some (.int .i64 t646) := (kQC BK648.out 0).trans rfl
   have hcz123_1 : wc.cell? ⟨gb648, 1, none⟩ = some (.int .i64 t647) := (kQC BK648.out 1).trans rfl
   have hfz123_0 := kQF BK648.out 0
   have hfz123_1 := kQF BK648.out 1
   obtain ⟨Ao124, co124, eo124⟩ := Kd.R_slice HO_8.out
   subst eo124
   go_wp2_with (first | ((with_reducible refine gQc (f := 21) rfl ?_); refine goesL_ (some 108) rfl rfl Try.func21 (by kernel_rfl) rfl #[.agg #[.int .i64 t646, .int .i64 t647], .slice Ao124 t661.length co124, .slice Ao58 t658.length co58] rfl tL ?_; (with_reducible refine (impl_ComposeLinear.calls kj44 t646 t647 (fun k_ => some k_ = (.slice Ao124 t661.length co124 : Value).ownBlock) _ _ t661 (fun k_ => some k_ = (.slice Ao58 t658.length co58 : Value).ownBlock) _ _ t658 t679 t682 _ ?s1 ?s2 A112.out).mono ?_); (case s1 => exact Kd.R_V (Kd.R_tight rfl (Kd.R_types (HO_8.out) BK648.out (by decide)))); (case s2 => exact Kd.R_V (Kd.R_tight rfl (Kd.R_types (HO_7.out) BK648.out (by decide)))); rintro e w125 ⟨v680, rfl, ho0, hb⟩; refine ⟨_, rfl, ?_⟩; refine qM9 (Kd.R_elder' (tR HO_6.out) (Kd.R_base ho0) hb) (Kd.R_elder' (tR HO_7.out) (Kd.R_base ho0) hb) (Kd.R_elder' (tR HO_8.out) (Kd.R_base ho0) hb) (Kd.R_elder' (tR HO_9.out) (Kd.R_base ho0) hb) (Kd.R_elder' (tR HO_11.out) (Kd.R_base ho0) hb) (Kd.R_elder' (tR HO_12.out) (Kd.R_base ho0) hb) (Kd.R_lower (Kd.R_new' (Kd.R_new' (Kd.R_new' (Kd.R_new' (Kd.R_new' (Kd.R_new' (Kd.R_mono (ok' := fun k_ => True) ho0 (fun _ hk_ => trivial)) (Kd.R_lt (tR HO_6.out))) (Kd.R_lt (tR HO_7.out))) (Kd.R_lt (tR HO_8.out))) (Kd.R_lt (tR HO_9.out))) (Kd.R_lt (tR HO_11.out))) (Kd.R_lt (tR HO_12.out))) (bQZ tB)) (tQ BK648.out hb) (bQT tB hb) ?_; clear HO_6 HO_7 HO_8 HO_9 HO_11 HO_12 BK648 HB; intro HO_6 HO_7 HO_8 HO_9 HO_11 HO_12 HO681 BK648 HB; (try clear hb); (try clear hb2); (try clear hk); (try clear hi); (try clear ho0); have hcz126_0 : w125.cell? ⟨gb648, 0, none⟩ = some (.int .i64 t646) := (kQC BK648.out 0).trans rfl; have hcz126_1 : w125.cell? ⟨gb648, 1, none⟩ = some (.int .i64 t647) := (kQC BK648.out 1).trans rfl; have hfz126_0 := kQF BK648.out 0; have hfz126_1 := kQF BK648.out 1; obtain ⟨Ao127, co127, eo127⟩ := Kd.R_slice HO_11.out; subst eo127) | ((with_reducible refine gQc (f := 21) rfl ?_); refine goesL_ (some 115) rfl rfl Try.func21 (by kernel_rfl) rfl #[.agg #[.int .i64 t646, .int .i64 t647], .slice Ao58 t658.length co58, .slice Ao127 t668.length co127] rfl tL ?_; (with_reducible refine (impl_ComposeLinear.calls kj44 t646 t647 (fun k_ => some k_ = (.slice Ao58 t658.length co58 : Value).ownBlock) _ _ t658 (fun k_ => some k_ = (.slice Ao127 t668.length co127 : Value).ownBlock) _ _ t668 t683 t686 _ ?s1 ?s2 A113.out).mono ?_); (case s1 => exact Kd.R_V (Kd.R_tight rfl (Kd.R_types (HO_7.out) BK648.out (by decide)))); (case s2 => exact Kd.R_V (Kd.R_tight rfl (Kd.R_types (HO_11.out) BK648.out (by decide)))); rintro e w128 ⟨v684, rfl, ho0, hb⟩; refine ⟨_, rfl, ?_⟩; refine qM10 (Kd.R_elder' (tR HO_6.out) (Kd.R_base ho0) hb) (Kd.R_elder' (tR HO_7.out) (Kd.R_base ho0) hb) (Kd.R_elder' (tR HO_8.out) (Kd.R_base ho0) hb) (Kd.R_elder' (tR HO_9.out) (Kd.R_base ho0) hb) (Kd.R_elder' (tR HO_11.out) (Kd.R_base ho0) hb) (Kd.R_elder' (tR HO_12.out) (Kd.R_base ho0) hb) (Kd.R_elder' (tR HO681.out) (Kd.R_base ho0) hb) (Kd.R_lower (Kd.R_new' (Kd.R_new' (Kd.R_new' (Kd.R_new' (Kd.R_new' (Kd.R_new' (Kd.R_new' (Kd.R_mono (ok' := fun k_ => True) ho0 (fun _ hk_ => trivial)) (Kd.R_lt (tR HO_6.out))) (Kd.R_lt (tR HO_7.out))) (Kd.R_lt (tR HO_8.out))) (Kd.R_lt (tR HO_9.out))) (Kd.R_lt (tR HO_11.out))) (Kd.R_lt (tR HO_12.out))) (Kd.R_lt (tR HO681.out))) (bQZ tB)) (tQ BK648.out hb) (bQT tB hb) ?_; clear HO_6 HO_7 HO_8 HO_9 HO_11 HO_12 HO681 BK648 HB; intro HO_6 HO_7 HO_8 HO_9 HO_11 HO_12 HO681 HO685 BK648 HB; (try clear hb); (try clear hb2); (try clear hk); (try clear hi); (try clear ho0); have hcz129_0 : w128.cell? ⟨gb648, 0, none⟩ = some (.int .i64 t646) := (kQC BK648.out 0).trans rfl; have hcz129_1 : w128.cell? ⟨gb648, 1, none⟩ = some (.int .i64 t647) := (kQC BK648.out 1).trans rfl; have hfz129_0 := kQF BK648.out 0; have hfz129_1 := kQF BK648.out 1; obtain ⟨Ao130, co130, eo130⟩ := Kd.R_slice HO681.out; subst eo130; obtain ⟨Ao131, co131, eo131⟩ := Kd.R_slice HO_9.out; subst eo131) | ((with_reducible refine gQc (f := 22) rfl ?_); refine goesL_ (some 122) rfl rfl Try.func22 (by kernel_rfl) rfl #[.agg #[.int .i64 t646, .int .i64 t647], .slice Ao130 t679.length co130, .slice Ao131 t664.length co131] rfl tL ?_; (with_reducible refine (impl_SumLinear.calls kj44 t646 t647 (fun k_ => some k_ = (.slice Ao130 t679.length co130 : Value).ownBlock) _ _ t679 (fun k_ => some k_ = (.slice Ao131 t664.length co131 : Value).ownBlock) _ _ t664 t687 t690 _ ?s1 ?s2 A114.out).mono ?_); (case s1 => exact Kd.R_V (Kd.R_tight rfl (Kd.R_types (HO681.out) BK648.out (by decide)))); (case s2 => exact Kd.R_V (Kd.R_tight rfl (Kd.R_types (HO_9.out) BK648.out (by decide)))); rintro e w132 ⟨v688, rfl, ho0, hb⟩; refine ⟨_, rfl, ?_⟩; refine qM11 (Kd.R_elder' (tR HO_6.out) (Kd.R_base ho0) hb) (Kd.R_elder' (tR HO_7.out) (Kd.R_base ho0) hb) (Kd.R_elder' (tR HO_8.out) (Kd.R_base ho0) hb) (Kd.R_elder' (tR HO_9.out) (Kd.R_base ho0) hb) (Kd.R_elder' (tR HO_11.out) (Kd.R_base ho0) hb) (Kd.R_elder' (tR HO_12.out) (Kd.R_base ho0) hb) (Kd.R_elder' (tR HO681.out) (Kd.R_base ho0) hb) (Kd.R_elder' (tR HO685.out) (Kd.R_base ho0) hb) (Kd.R_lower (Kd.R_new' (Kd.R_new' (Kd.R_new' (Kd.R_new' (Kd.R_new' (Kd.R_new' (Kd.R_new' (Kd.R_new' (Kd.R_mono (ok' := fun k_ => True) ho0 (fun _ hk_ => trivial)) (Kd.R_lt (tR HO_6.out))) (Kd.R_lt (tR HO_7.out))) (Kd.R_lt (tR HO_8.out))) (Kd.R_lt (tR HO_9.out))) (Kd.R_lt (tR HO_11.out))) (Kd.R_lt (tR HO_12.out))) (Kd.R_lt (tR HO681.out))) (Kd.R_lt (tR HO685.out))) (bQZ tB)) (tQ BK648.out hb) (bQT tB hb) ?_; clear HO_6 HO_7 HO_8 HO_9 HO_11 HO_12 HO681 HO685 BK648 HB; intro HO_6 HO_7 HO_8 HO_9 HO_11 HO_12 HO681 HO685 HO689 BK648 HB; (try clear hb); (try clear hb2); (try clear hk); (try clear hi); (try clear ho0); have hcz133_0 : w132.cell? ⟨gb648, 0, none⟩ = some (.int .i64 t646) := (kQC BK648.out 0).trans rfl; have hcz133_1 : w132.cell? ⟨gb648, 1, none⟩ = some (.int .i64 t647) := (kQC BK648.out 1).trans rfl; have hfz133_0 := kQF BK648.out 0; have hfz133_1 := kQF BK648.out 1; obtain ⟨Ao134, co134, eo134⟩ := Kd.R_slice HO685.out; subst eo134; obtain ⟨Ao135, co135, eo135⟩ := Kd.R_slice HO_12.out; subst eo135) | ((with_reducible refine gQc (f := 22) rfl ?_); refine goesL_ (some 129) rfl rfl Try.func22 (by kernel_rfl) rfl #[.agg #[.int .i64 t646, .int .i64 t647], .slice Ao134 t683.length co134, .slice Ao135 t671.length co135] rfl tL ?_; (with_reducible refine (impl_SumLinear.calls kj44 t646 t647 (fun k_ => some k_ = (.slice Ao134 t683.length co134 : Value).ownBlock) _ _ t683 (fun k_ => some k_ = (.slice Ao135 t671.length co135 : Value).ownBlock) _ _ t671 t691 t694 _ ?s1 ?s2 A115.out).mono ?_); (case s1 => exact Kd.R_V (Kd.R_tight rfl (Kd.R_types (HO685.out) BK648.out (by decide)))); (case s2 => exact Kd.R_V (Kd.R_tight rfl (Kd.R_types (HO_12.out) BK648.out (by decide)))); rintro e w136 ⟨v692, rfl, ho0, hb⟩; refine ⟨_, rfl, ?_⟩; refine qM12 (Kd.R_elder' (tR HO_6.out) (Kd.R_base ho0) hb) (Kd.R_elder' (tR HO_7.out) (Kd.R_base ho0) hb) (Kd.R_elder' (tR HO_8.out) (Kd.R_base ho0) hb) (Kd.R_elder' (tR HO_9.out) (Kd.R_base ho0) hb) (Kd.R_elder' (tR HO_11.out) (Kd.R_base ho0) hb) (Kd.R_elder' (tR HO_12.out) (Kd.R_base ho0) hb) (Kd.R_elder' (tR HO681.out) (Kd.R_base ho0) hb) (Kd.R_elder' (tR HO685.out) (Kd.R_base ho0) hb) (Kd.R_elder' (tR HO689.out) (Kd.R_base ho0) hb) (Kd.R_lower (Kd.R_new' (Kd.R_new' (Kd.R_new' (Kd.R_new' (Kd.R_new' (Kd.R_new' (Kd.R_new' (Kd.R_new' (Kd.R_new' (Kd.R_mono (ok' := fun k_ => True) ho0 (fun _ hk_ => trivial)) (Kd.R_lt (tR HO_6.out))) (Kd.R_lt (tR HO_7.out))) (Kd.R_lt (tR HO_8.out))) (Kd.R_lt (tR HO_9.out))) (Kd.R_lt (tR HO_11.out))) (Kd.R_lt (tR HO_12.out))) (Kd.R_lt (tR HO681.out))) (Kd.R_lt (tR HO685.out))) (Kd.R_lt (tR HO689.out))) (bQZ tB)) (tQ BK648.out hb) (bQT tB hb) ?_; clear HO_6 HO_7 HO_8 HO_9 HO_11 HO_12 HO681 HO685 HO689 BK648 HB; intro HO_6 HO_7 HO_8 HO_9 HO_11 HO_12 HO681 HO685 HO689 HO693 BK648 HB; (try clear hb); (try clear hb2); (try clear hk); (try clear hi); (try clear ho0); obtain ⟨Ao137, co137, eo137⟩ := Kd.R_slice HO689.out; subst eo137) | (go_at_call 23; (with_reducible refine (spec_SameList.calls kj44 _ _ t687 _ _ t649 true _ ?s1 ?s2 ?s3 ?s4 A120.out).mono ?_); (case s1 => exact tC ((Kd.R_reads' HO689.out).2.2)); (case s2 => exact (Kd.R_reads' HO689.out).2.1); (case s3 => exact tC ((Kd.R_reads' HO_6.out).2.2)); (case s4 => exact (Kd.R_reads' HO_6.out).2.1); rintro e w' ⟨rfl, ⟨nd, rfl⟩⟩; obtain ⟨Ao138, co138, eo138⟩ := Kd.R_slice HO693.out; subst eo138) | (go_at_call 23; (with_reducible refine (spec_SameList.calls kj44 _ _ t691 _ _ t649 t696 _ ?s1 ?s2 ?s3 ?s4 A122.out).mono ?_); (case s1 => exact tC ((Kd.R_reads' HO693.out).2.2)); (case s2 => exact (Kd.R_reads' HO693.out).2.1); (case s3 => exact tC ((Kd.R_reads' HO_6.out).2.2)); (case s4 => exact (Kd.R_reads' HO_6.out).2.1); rintro e w' ⟨rfl, ⟨nd, rfl⟩⟩))
   go_ret
   exact ⟨tE, tB⟩
  replace c121 := Bool.eq_false_iff.mpr c121
  subst c121
  rw [if_neg (show ¬ (false = true) by decide)] at H
  obtain rfl := Option.some.inj H
  have hcz139_0 : wc.cell? ⟨gb648, 0, none⟩ = some (.int .i64 t646) := (kQC BK648.out 0).trans rfl
  have hcz139_1 : wc.cell? ⟨gb648, 1, none⟩ = some (.int .i64 t647) := (kQC BK648.out 1).trans rfl
  have hfz139_0 := kQF BK648.out 0
  have hfz139_1 := kQF BK648.out 1
  obtain ⟨Ao140, co140, eo140⟩ := Kd.R_slice HO_8.out
  subst eo140
  go_wp2_with (first | ((with_reducible refine gQc (f := 21) rfl ?_); refine goesL_ (some 108) rfl rfl Try.func21 (by kernel_rfl) rfl #[.agg #[.int .i64 t646, .int .i64 t647], .slice Ao140 t661.length co140, .slice Ao58 t658.length co58] rfl tL ?_; (with_reducible refine (impl_ComposeLinear.calls kj44 t646 t647 (fun k_ => some k_ = (.slice Ao140 t661.length co140 : Value).ownBlock) _ _ t661 (fun k_ => some k_ = (.slice Ao58 t658.length co58 : Value).ownBlock) _ _ t658 t679 t682 _ ?s1 ?s2 A112.out).mono ?_); (case s1 => exact Kd.R_V (Kd.R_tight rfl (Kd.R_types (HO_8.out) BK648.out (by decide)))); (case s2 => exact Kd.R_V (Kd.R_tight rfl (Kd.R_types (HO_7.out) BK648.out (by decide)))); rintro e w141 ⟨v680, rfl, ho0, hb⟩; refine ⟨_, rfl, ?_⟩; refine qM9 (Kd.R_elder' (tR HO_6.out) (Kd.R_base ho0) hb) (Kd.R_elder' (tR HO_7.out) (Kd.R_base ho0) hb) (Kd.R_elder' (tR HO_8.out) (Kd.R_base ho0) hb) (Kd.R_elder' (tR HO_9.out) (Kd.R_base ho0) hb) (Kd.R_elder' (tR HO_11.out) (Kd.R_base ho0) hb) (Kd.R_elder' (tR HO_12.out) (Kd.R_base ho0) hb) (Kd.R_lower (Kd.R_new' (Kd.R_new' (Kd.R_new' (Kd.R_new' (Kd.R_new' (Kd.R_new' (Kd.R_mono (ok' := fun k_ => True) ho0 (fun _ hk_ => trivial)) (Kd.R_lt (tR HO_6.out))) (Kd.R_lt (tR HO_7.out))) (Kd.R_lt (tR HO_8.out))) (Kd.R_lt (tR HO_9.out))) (Kd.R_lt (tR HO_11.out))) (Kd.R_lt (tR HO_12.out))) (bQZ tB)) (tQ BK648.out hb) (bQT tB hb) ?_; clear HO_6 HO_7 HO_8 HO_9 HO_11 HO_12 BK648 HB; intro HO_6 HO_7 HO_8 HO_9 HO_11 HO_12 HO681 BK648 HB; (try clear hb); (try clear hb2); (try clear hk); (try clear hi); (try clear ho0); have hcz142_0 : w141.cell? ⟨gb648, 0, none⟩ = some (.int .i64 t646) := (kQC BK648.out 0).trans rfl; have hcz142_1 : w141.cell? ⟨gb648, 1, none⟩ = some (.int .i64 t647) := (kQC BK648.out 1).trans rfl; have hfz142_0 := kQF BK648.out 0; have hfz142_1 := kQF BK648.out 1; obtain ⟨Ao143, co143, eo143⟩ := Kd.R_slice HO_11.out; subst eo143) | ((with_reducible refine gQc (f := 21) rfl ?_); refine goesL_ (some 115) rfl rfl Try.func21 (by kernel_rfl) rfl #[.agg #[.int .i64 t646, .int .i64 t647], .slice Ao58 t658.length co58, .slice Ao143 t668.length co143] rfl tL ?_; (with_reducible refine (impl_ComposeLinear.calls kj44 t646 t647 (fun k_ => some k_ = (.slice Ao58 t658.length co58 : Value).ownBlock) _ _ t658 (fun k_ => some k_ = (.slice Ao143 t668.length co143 : Value).ownBlock) _ _ t668 t683 t686 _ ?s1 ?s2 A113.out).mono ?_); (case s1 => exact Kd.R_V (Kd.R_tight rfl (Kd.R_types (HO_7.out) BK648.out (by decide)))); (case s2 => exact Kd.R_V (Kd.R_tight rfl (Kd.R_types (HO_11.out) BK648.out (by decide)))); rintro e w144 ⟨v684, rfl, ho0, hb⟩; refine ⟨_, rfl, ?_⟩; refine qM10 (Kd.R_elder' (tR HO_6.out) (Kd.R_base ho0) hb) (Kd.R_elder' (tR HO_7.out) (Kd.R_base ho0) hb) (Kd.R_elder' (tR HO_8.out) (Kd.R_base ho0) hb) (Kd.R_elder' (tR HO_9.out) (Kd.R_base ho0) hb) (Kd.R_elder' (tR HO_11.out) (Kd.R_base ho0) hb) (Kd.R_elder' (tR HO_12.out) (Kd.R_base ho0) hb) (Kd.R_elder' (tR HO681.out) (Kd.R_base ho0) hb) (Kd.R_lower (Kd.R_new' (Kd.R_new' (Kd.R_new' (Kd.R_new' (Kd.R_new' (Kd.R_new' (Kd.R_new' (Kd.R_mono (ok' := fun k_ => True) ho0 (fun _ hk_ => trivial)) (Kd.R_lt (tR HO_6.out))) (Kd.R_lt (tR HO_7.out))) (Kd.R_lt (tR HO_8.out))) (Kd.R_lt (tR HO_9.out))) (Kd.R_lt (tR HO_11.out))) (Kd.R_lt (tR HO_12.out))) (Kd.R_lt (tR HO681.out))) (bQZ tB)) (tQ BK648.out hb) (bQT tB hb) ?_; clear HO_6 HO_7 HO_8 HO_9 HO_11 HO_12 HO681 BK648 HB; intro HO_6 HO_7 HO_8 HO_9 HO_11 HO_12 HO681 HO685 BK648 HB; (try clear hb); (try clear hb2); (try clear hk); (try clear hi); (try clear ho0); have hcz145_0 : w144.cell? ⟨gb648, 0, none⟩ = some (.int .i64 t646) := (kQC BK648.out 0).trans rfl; have hcz145_1 : w144.cell? ⟨gb648, 1, none⟩ = some (.int .i64 t647) := (kQC BK648.out 1).trans rfl; have hfz145_0 := kQF BK648.out 0; have hfz145_1 := kQF BK648.out 1; obtain ⟨Ao146, co146, eo146⟩ := Kd.R_slice HO681.out; subst eo146; obtain ⟨Ao147, co147, eo147⟩ := Kd.R_slice HO_9.out; subst eo147) | ((with_reducible refine gQc (f := 22) rfl ?_); refine goesL_ (some 122) rfl rfl Try.func22 (by kernel_rfl) rfl #[.agg #[.int .i64 t646, .int .i64 t647], .slice Ao146 t679.length co146, .slice Ao147 t664.length co147] rfl tL ?_; (with_reducible refine (impl_SumLinear.calls kj44 t646 t647 (fun k_ => some k_ = (.slice Ao146 t679.length co146 : Value).ownBlock) _ _ t679 (fun k_ => some k_ = (.slice Ao147 t664.length co147 : Value).ownBlock) _ _ t664 t687 t690 _ ?s1 ?s2 A114.out).mono ?_); (case s1 => exact Kd.R_V (Kd.R_tight rfl (Kd.R_types (HO681.out) BK648.out (by decide)))); (case s2 => exact Kd.R_V (Kd.R_tight rfl (Kd.R_types (HO_9.out) BK648.out (by decide)))); rintro e w148 ⟨v688, rfl, ho0, hb⟩; refine ⟨_, rfl, ?_⟩; refine qM11 (Kd.R_elder' (tR HO_6.out) (Kd.R_base ho0) hb) (Kd.R_elder' (tR HO_7.out) (Kd.R_base ho0) hb) (Kd.R_elder' (tR HO_8.out) (Kd.R_base ho0) hb) (Kd.R_elder' (tR HO_9.out) (Kd.R_base ho0) hb) (Kd.R_elder' (tR HO_11.out) (Kd.R_base ho0) hb) (Kd.R_elder' (tR HO_12.out) (Kd.R_base ho0) hb) (Kd.R_elder' (tR HO681.out) (Kd.R_base ho0) hb) (Kd.R_elder' (tR HO685.out) (Kd.R_base ho0) hb) (Kd.R_lower (Kd.R_new' (Kd.R_new' (Kd.R_new' (Kd.R_new' (Kd.R_new' (Kd.R_new' (Kd.R_new' (Kd.R_new' (Kd.R_mono (ok' := fun k_ => True) ho0 (fun _ hk_ => trivial)) (Kd.R_lt (tR HO_6.out))) (Kd.R_lt (tR HO_7.out))) (Kd.R_lt (tR HO_8.out))) (Kd.R_lt (tR HO_9.out))) (Kd.R_lt (tR HO_11.out))) (Kd.R_lt (tR HO_12.out))) (Kd.R_lt (tR HO681.out))) (Kd.R_lt (tR HO685.out))) (bQZ tB)) (tQ BK648.out hb) (bQT tB hb) ?_; clear HO_6 HO_7 HO_8 HO_9 HO_11 HO_12 HO681 HO685 BK648 HB; intro HO_6 HO_7 HO_8 HO_9 HO_11 HO_12 HO681 HO685 HO689 BK648 HB; (try clear hb); (try clear hb2); (try clear hk); (try clear hi); (try clear ho0); have hcz149_0 : w148.cell? ⟨gb648, 0, none⟩ = some (.int .i64 t646) := (kQC BK648.out 0).trans rfl; have hcz149_1 : w148.cell? ⟨gb648, 1, none⟩ = some (.int .i64 t647) := (kQC BK648.out 1).trans rfl; have hfz149_0 := kQF BK648.out 0; have hfz149_1 := kQF BK648.out 1; obtain ⟨Ao150, co150, eo150⟩ := Kd.R_slice HO685.out; subst eo150; obtain ⟨Ao151, co151, eo151⟩ := Kd.R_slice HO_12.out; subst eo151) | ((with_reducible refine gQc (f := 22) rfl ?_); refine goesL_ (some 129) rfl rfl Try.func22 (by kernel_rfl) rfl #[.agg #[.int .i64 t646, .int .i64 t647], .slice Ao150 t683.length co150, .slice Ao151 t671.length co151] rfl tL ?_; (with_reducible refine (impl_SumLinear.calls kj44 t646 t647 (fun k_ => some k_ = (.slice Ao150 t683.length co150 : Value).ownBlock) _ _ t683 (fun k_ => some k_ = (.slice Ao151 t671.length co151 : Value).ownBlock) _ _ t671 t691 t694 _ ?s1 ?s2 A115.out).mono ?_); (case s1 => exact Kd.R_V (Kd.R_tight rfl (Kd.R_types (HO685.out) BK648.out (by decide)))); (case s2 => exact Kd.R_V (Kd.R_tight rfl (Kd.R_types (HO_12.out) BK648.out (by decide)))); rintro e w152 ⟨v692, rfl, ho0, hb⟩; refine ⟨_, rfl, ?_⟩; refine qM12 (Kd.R_elder' (tR HO_6.out) (Kd.R_base ho0) hb) (Kd.R_elder' (tR HO_7.out) (Kd.R_base ho0) hb) (Kd.R_elder' (tR HO_8.out) (Kd.R_base ho0) hb) (Kd.R_elder' (tR HO_9.out) (Kd.R_base ho0) hb) (Kd.R_elder' (tR HO_11.out) (Kd.R_base ho0) hb) (Kd.R_elder' (tR HO_12.out) (Kd.R_base ho0) hb) (Kd.R_elder' (tR HO681.out) (Kd.R_base ho0) hb) (Kd.R_elder' (tR HO685.out) (Kd.R_base ho0) hb) (Kd.R_elder' (tR HO689.out) (Kd.R_base ho0) hb) (Kd.R_lower (Kd.R_new' (Kd.R_new' (Kd.R_new' (Kd.R_new' (Kd.R_new' (Kd.R_new' (Kd.R_new' (Kd.R_new' (Kd.R_new' (Kd.R_mono (ok' := fun k_ => True) ho0 (fun _ hk_ => trivial)) (Kd.R_lt (tR HO_6.out))) (Kd.R_lt (tR HO_7.out))) (Kd.R_lt (tR HO_8.out))) (Kd.R_lt (tR HO_9.out))) (Kd.R_lt (tR HO_11.out))) (Kd.R_lt (tR HO_12.out))) (Kd.R_lt (tR HO681.out))) (Kd.R_lt (tR HO685.out))) (Kd.R_lt (tR HO689.out))) (bQZ tB)) (tQ BK648.out hb) (bQT tB hb) ?_; clear HO_6 HO_7 HO_8 HO_9 HO_11 HO_12 HO681 HO685 HO689 BK648 HB; intro HO_6 HO_7 HO_8 HO_9 HO_11 HO_12 HO681 HO685 HO689 HO693 BK648 HB; (try clear hb); (try clear hb2); (try clear hk); (try clear hi); (try clear ho0); obtain ⟨Ao153, co153, eo153⟩ := Kd.R_slice HO689.out; subst eo153) | (go_at_call 23; (with_reducible refine (spec_SameList.calls kj44 _ _ t687 _ _ t649 false _ ?s1 ?s2 ?s3 ?s4 A120.out).mono ?_); (case s1 => exact tC ((Kd.R_reads' HO689.out).2.2)); (case s2 => exact (Kd.R_reads' HO689.out).2.1); (case s3 => exact tC ((Kd.R_reads' HO_6.out).2.2)); (case s4 => exact (Kd.R_reads' HO_6.out).2.1); rintro e w' ⟨rfl, ⟨nd, rfl⟩⟩))
  go_ret
  exact ⟨tE, tB⟩
end Go.Proofs.Ytkhjoomjjdgkjaa.P
