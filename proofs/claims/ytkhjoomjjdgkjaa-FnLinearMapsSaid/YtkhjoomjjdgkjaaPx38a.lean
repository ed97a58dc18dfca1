/- Functions of the program and what they tell, as the printing program wrote it. -/
import Derived.Test.YtkhjoomjjdgkjaaPx0
import Derived.Test.YtkhjoomjjdgkjaaPx2
import Derived.Test.YtkhjoomjjdgkjaaPx18
import Derived.Test.YtkhjoomjjdgkjaaPx19
import Derived.Test.YtkhjoomjjdgkjaaPx20
import Derived.Test.YtkhjoomjjdgkjaaPx28
import Derived.Test.YtkhjoomjjdgkjaaPx29
import Derived.Test.YtkhjoomjjdgkjaaPx30
import Derived.Test.YtkhjoomjjdgkjaaPx33
namespace Go.Proofs.Ytkhjoomjjdgkjaa.P
open Go.Shelf Go.RowKit Go.Proofs.YtkhjoomjjdgkjaaW.PrintWords Go.Proofs.YtkhjoomjjdgkjaaW.PrintLast Go.Proofs.YtkhjoomjjdgkjaaW.PrintMore
attribute [local go_sem] max2_int min2_int max_two min_two max_three min_three max_four min_four
set_option linter.unusedVariables false
set_option linter.unusedSimpArgs false
set_option maxHeartbeats 8000000
set_option maxRecDepth 100000
mutual
def laws_FnLinearMaps.j0 : Nat → Int → List Int → List Int → Int → Int → Int → Bool → Int → Int → Option (Bool)
  | 0, _, _, _, _, _, _, _, _, _ => none
  | k + 1, x6, x7, x8, x9, x11, x17, x119, x963000, x963001 => if x119 = true then (some false) else ((impl_SumLinear.f k x963000 x963001 x7 x8).bind fun bt985 => ((impl_ComposeLinear.f k x963000 x963001 x7 x8).bind fun bt989 => ((impl_FoldLinear.f k x963000 x963001 x7).bind fun bt993 => (if bt985.2 = 0 then (if bt989.2 = 0 then (if bt993.2 = 0 then ((spec_ValidLinear.f k x963000 x963001 bt985.1).bind fun t997 => (if t997 = true then ((spec_ValidLinear.f k x963000 x963001 bt989.1).bind fun t998 => (if t998 = true then ((spec_ValidLinear.f k x963000 x963001 bt993.1).bind fun t999 => (if t999 = true then (laws_FnLinearMaps.j1 k x6 x7 x9 x11 x17 bt985.1 bt989.1 bt993.1 (decide ((bt993.1.length : Int) > x963000)) x963000 x963001) else (laws_FnLinearMaps.j1 k x6 x7 x9 x11 x17 bt985.1 bt989.1 bt993.1 true x963000 x963001))) else (laws_FnLinearMaps.j1 k x6 x7 x9 x11 x17 bt985.1 bt989.1 bt993.1 true x963000 x963001))) else (laws_FnLinearMaps.j1 k x6 x7 x9 x11 x17 bt985.1 bt989.1 bt993.1 true x963000 x963001))) else (laws_FnLinearMaps.j1 k x6 x7 x9 x11 x17 bt985.1 bt989.1 bt993.1 true x963000 x963001)) else (laws_FnLinearMaps.j1 k x6 x7 x9 x11 x17 bt985.1 bt989.1 bt993.1 true x963000 x963001)) else (laws_FnLinearMaps.j1 k x6 x7 x9 x11 x17 bt985.1 bt989.1 bt993.1 true x963000 x963001)))))
def laws_FnLinearMaps.j1 : Nat → Int → List Int → Int → Int → Int → List Int → List Int → List Int → Bool → Int → Int → Option (Bool)
  | 0, _, _, _, _, _, _, _, _, _, _, _ => none
  | k + 1, x6, x7, x9, x11, x17, x19, x21, x23, x174, x963000, x963001 => if x174 = true then (some false) else ((impl_ValueOf.f k x963000 x963001 x19 x9).bind fun bt1000 => ((impl_ValueOf.f k x963000 x963001 x21 x9).bind fun bt1002 => ((impl_ValueOf.f k x963000 x963001 x7 x17).bind fun bt1004 => ((impl_ValueOf.f k x963000 x963001 x23 x9).bind fun bt1006 => ((impl_RootsOf.f k x963000 x963001 x7).bind fun bt1008 => ((impl_RankOfLinear.f k x963000 x963001 x7).bind fun bt1012 => (if bt1000.2 = 0 then (if bt1002.2 = 0 then (if bt1004.2 = 0 then (if bt1006.2 = 0 then (if bt1008.2 = 0 then (if bt1012.2 = 0 then (if bt1000.1 = (Go.bits .xor .i64 x11 x17) then (if bt1002.1 = bt1004.1 then (if bt1006.1 = x11 then (if bt1012.1 < 0 then (some false) else (if bt1012.1 > x963000 then (some false) else (if 0 ≤ (IntKind.u64.wrap (bt1012.1)) then (if (bt1008.1.length : Int) = (shr .i64 x6 (IntKind.u64.wrap (bt1012.1))) then ((laws_a2Has.f k bt1008.1 x9).bind fun t1014 => (if (t1014 == (x11 == 0)) = true then (if (x7.length : Int) = 0 then (some true) else (if 0 ≤ (IntKind.u64.wrap (wrap64 ((x7.length : Int) - 1))) then (some (decide ((bt1008.1.length : Int) ≤ (shl .i64 1 (IntKind.u64.wrap (wrap64 ((x7.length : Int) - 1))))))) else (none))) else (some false))) else (some false)) else (none)))) else (some false)) else (some false)) else (some false)) else (some false)) else (some false)) else (some false)) else (some false)) else (some false)) else (some false))))))))
end
def laws_FnLinearMaps.f (k : Nat) (l0 : List Int) (l1 : List Int) : Option (Bool) := (laws_a2Long.f l0 l1).bind fun t959 => (if t959 = true then (some true) else ((spec_A2Field.f k l0).bind fun bt960 => (if 0 ≤ (IntKind.u64.wrap (bt960.1)) then ((spec_A2Linear.f k l1 bt960.1 bt960.2 5).bind fun t963 => ((some (([5] : List Int) : List Int)).bind fun y966 => (if y966.length + l1.length < 140737488355328 then ((spec_A2Linear.f k (y966 ++ l1) bt960.1 bt960.2 5).bind fun t972 => ((spec_A2Element.f k l0 bt960.1 bt960.2 3).bind fun t975 => ((spec_A2Element.f k l0 bt960.1 bt960.2 4).bind fun t976 => ((impl_ValueOf.f k bt960.1 bt960.2 t963 t975).bind fun bt977 => ((impl_ValueOf.f k bt960.1 bt960.2 t963 t976).bind fun bt979 => ((impl_ValueOf.f k bt960.1 bt960.2 t963 (Go.bits .xor .i64 t975 t976)).bind fun bt981 => ((impl_ValueOf.f k bt960.1 bt960.2 t972 t975).bind fun bt983 => (if bt977.2 = 0 then (if bt979.2 = 0 then (if bt981.2 = 0 then (if bt983.2 = 0 then (if bt981.1 = (Go.bits .xor .i64 bt977.1 bt979.1) then (if bt983.1 < 0 then (laws_FnLinearMaps.j0 k (shl .i64 1 (IntKind.u64.wrap (bt960.1))) t963 t972 t975 bt977.1 bt983.1 true bt960.1 bt960.2) else (laws_FnLinearMaps.j0 k (shl .i64 1 (IntKind.u64.wrap (bt960.1))) t963 t972 t975 bt977.1 bt983.1 (decide (bt983.1 ≥ (shl .i64 1 (IntKind.u64.wrap (bt960.1))))) bt960.1 bt960.2)) else (laws_FnLinearMaps.j0 k (shl .i64 1 (IntKind.u64.wrap (bt960.1))) t963 t972 t975 bt977.1 bt983.1 true bt960.1 bt960.2)) else (laws_FnLinearMaps.j0 k (shl .i64 1 (IntKind.u64.wrap (bt960.1))) t963 t972 t975 bt977.1 bt983.1 true bt960.1 bt960.2)) else (laws_FnLinearMaps.j0 k (shl .i64 1 (IntKind.u64.wrap (bt960.1))) t963 t972 t975 bt977.1 bt983.1 true bt960.1 bt960.2)) else (laws_FnLinearMaps.j0 k (shl .i64 1 (IntKind.u64.wrap (bt960.1))) t963 t972 t975 bt977.1 bt983.1 true bt960.1 bt960.2)) else (laws_FnLinearMaps.j0 k (shl .i64 1 (IntKind.u64.wrap (bt960.1))) t963 t972 t975 bt977.1 bt983.1 true bt960.1 bt960.2))))))))) else (none)))) else (none))))
theorem laws_FnLinearMaps.mono_l : ∀ k, (∀ y0 y1 y2 y3 y4 y5 y6 y7 y8, LeO (laws_FnLinearMaps.j0 k y0 y1 y2 y3 y4 y5 y6 y7 y8) (laws_FnLinearMaps.j0 (k + 1) y0 y1 y2 y3 y4 y5 y6 y7 y8)) ∧ (∀ y0 y1 y2 y3 y4 y5 y6 y7 y8 y9 y10, LeO (laws_FnLinearMaps.j1 k y0 y1 y2 y3 y4 y5 y6 y7 y8 y9 y10) (laws_FnLinearMaps.j1 (k + 1) y0 y1 y2 y3 y4 y5 y6 y7 y8 y9 y10))
 | 0 => ⟨fun _ _ _ _ _ _ _ _ _ r h => by simp [laws_FnLinearMaps.j0] at h, fun _ _ _ _ _ _ _ _ _ _ _ r h => by simp [laws_FnLinearMaps.j1] at h⟩
 | k + 1 => by
  obtain ⟨ih0, ih1⟩ := laws_FnLinearMaps.mono_l k
  refine ⟨?_, ?_⟩ <;> intros <;> first | unfold laws_FnLinearMaps.j0 | unfold laws_FnLinearMaps.j1
  all_goals repeat' first
   | (with_reducible first | apply ih0 | apply ih1 | apply impl_ComposeLinear.mono | apply impl_FoldLinear.mono | apply impl_RankOfLinear.mono | apply impl_RootsOf.mono | apply impl_SumLinear.mono | apply impl_ValueOf.mono | apply laws_a2Has.mono | apply spec_A2Element.mono | apply spec_A2Field.mono | apply spec_A2Linear.mono | apply spec_ValidLinear.mono | exact LeO.refl _ | exact LeO.none _ | refine LeO.ite ?_ ?_ | refine LeO.bind ?_ (fun _ => ?_))
   | exact LeO.none _
   | refine LeO.ite ?_ ?_
   | refine LeO.bind ?_ (fun _ => ?_)
theorem laws_FnLinearMaps.mono : ∀ a0 a1 k, LeO (laws_FnLinearMaps.f k a0 a1) (laws_FnLinearMaps.f (k + 1) a0 a1) := by
 intro a0 a1 k
 obtain ⟨ih0, ih1⟩ := laws_FnLinearMaps.mono_l k
 unfold laws_FnLinearMaps.f
 repeat' first
  | (with_reducible first | apply ih0 | apply ih1 | apply impl_ComposeLinear.mono | apply impl_FoldLinear.mono | apply impl_RankOfLinear.mono | apply impl_RootsOf.mono | apply impl_SumLinear.mono | apply impl_ValueOf.mono | apply laws_a2Has.mono | apply spec_A2Element.mono | apply spec_A2Field.mono | apply spec_A2Linear.mono | apply spec_ValidLinear.mono | exact LeO.refl _ | exact LeO.none _ | refine LeO.ite ?_ ?_ | refine LeO.bind ?_ (fun _ => ?_))
  | exact LeO.none _
  | refine LeO.ite ?_ ?_
  | refine LeO.bind ?_ (fun _ => ?_)
structure laws_FnLinearMaps.W (p : Prop) : Prop where mk :: (out : p)
noncomputable def laws_FnLinearMaps.G0 : (G0_ : Prop) ×' (laws_FnLinearMaps.W G0_ → ∀ (k : Nat) (A0 : Option Addr) (c0 : Nat) (l0 : List Int) (A1 : Option Addr) (c1 : Nat) (l1 : List Int) (r : Bool) (w : World) (hr0 : Kd.C (Kd.int .u8) w A0 l0.length l0) (hc0 : l0.length ≤ c0) (hr1 : Kd.C (Kd.int .u8) w A1 l1.length l1) (hc1 : l1.length ≤ c1) (h : laws_FnLinearMaps.f k l0 l1 = some r), Calls Try.prog 7 #[.slice A0 l0.length c0, .slice A1 l1.length c1] w fun e w' => e = .returned (.bool r) ∧ Below w.heap.size w w') := by
 constructor
 ·intro hG0_
  intro k A0 c0 l0 A1 c1 l1 r w hr0 hc0 hr1 hc1 h
  have hu27 := Try.underlying27
  have HR0 := Aq.mk hr0
  have HC0 := Aq.mk hc0
  clear hr0 hc0
  have HR1 := Aq.mk hr1
  have HC1 := Aq.mk hc1
  clear hr1 hc1
  have HB := Aq.mk (Below.refl w.heap.size w)
  have H : ((laws_a2Long.f l0 l1).bind fun t959 => (if t959 = true then (some true) else ((spec_A2Field.f k l0).bind fun bt960 => (if 0 ≤ (IntKind.u64.wrap (bt960.1)) then ((spec_A2Linear.f k l1 bt960.1 bt960.2 5).bind fun t963 => ((some (([5] : List Int) : List Int)).bind fun y966 => (if y966.length + l1.length < 140737488355328 then ((spec_A2Linear.f k (y966 ++ l1) bt960.1 bt960.2 5).bind fun t972 => ((spec_A2Element.f k l0 bt960.1 bt960.2 3).bind fun t975 => ((spec_A2Element.f k l0 bt960.1 bt960.2 4).bind fun t976 => ((impl_ValueOf.f k bt960.1 bt960.2 t963 t975).bind fun bt977 => ((impl_ValueOf.f k bt960.1 bt960.2 t963 t976).bind fun bt979 => ((impl_ValueOf.f k bt960.1 bt960.2 t963 (Go.bits .xor .i64 t975 t976)).bind fun bt981 => ((impl_ValueOf.f k bt960.1 bt960.2 t972 t975).bind fun bt983 => (if bt977.2 = 0 then (if bt979.2 = 0 then (if bt981.2 = 0 then (if bt983.2 = 0 then (if bt981.1 = (Go.bits .xor .i64 bt977.1 bt979.1) then (if bt983.1 < 0 then (laws_FnLinearMaps.j0 k (shl .i64 1 (IntKind.u64.wrap (bt960.1))) t963 t972 t975 bt977.1 bt983.1 true bt960.1 bt960.2) else (laws_FnLinearMaps.j0 k (shl .i64 1 (IntKind.u64.wrap (bt960.1))) t963 t972 t975 bt977.1 bt983.1 (decide (bt983.1 ≥ (shl .i64 1 (IntKind.u64.wrap (bt960.1))))) bt960.1 bt960.2)) else (laws_FnLinearMaps.j0 k (shl .i64 1 (IntKind.u64.wrap (bt960.1))) t963 t972 t975 bt977.1 bt983.1 true bt960.1 bt960.2)) else (laws_FnLinearMaps.j0 k (shl .i64 1 (IntKind.u64.wrap (bt960.1))) t963 t972 t975 bt977.1 bt983.1 true bt960.1 bt960.2)) else (laws_FnLinearMaps.j0 k (shl .i64 1 (IntKind.u64.wrap (bt960.1))) t963 t972 t975 bt977.1 bt983.1 true bt960.1 bt960.2)) else (laws_FnLinearMaps.j0 k (shl .i64 1 (IntKind.u64.wrap (bt960.1))) t963 t972 t975 bt977.1 bt983.1 true bt960.1 bt960.2)) else (laws_FnLinearMaps.j0 k (shl .i64 1 (IntKind.u64.wrap (bt960.1))) t963 t972 t975 bt977.1 bt983.1 true bt960.1 bt960.2))))))))) else (none)))) else (none))))) = some r := h
  clear h
  obtain ⟨t959, A3, H⟩ := qBd H
  by_cases c4 : t959 = true
  ·subst c4
   rw [if_pos rfl] at H
   obtain rfl := Option.some.inj H
   go_enter Try.func7, Try.ntmps7
   go_wp2_with (first | ((with_reducible refine gQc (f := 17) rfl ?_); refine goesL_ (some 39) rfl rfl Try.func17 (by kernel_rfl) rfl #[.slice A0 l0.length c0, .slice A1 l1.length c1] rfl tL ?_; (with_reducible refine (laws_a2Long.calls _ _ l0 _ _ l1 true _ ?s1 ?s2 ?s3 ?s4 A3.out).mono ?_); (case s1 => exact tC HR0.out); (case s2 => exact HC0.out); (case s3 => exact tC HR1.out); (case s4 => exact HC1.out); rintro e w' ⟨rfl, ⟨nd, rfl⟩⟩; refine ⟨_, rfl, ?_⟩))
   go_ret
   exact ⟨tE, tB⟩
  replace c4 := Bool.eq_false_iff.mpr c4
  subst c4
  rw [if_neg (show ¬ (false = true) by decide)] at H
  obtain ⟨⟨t960, t961⟩, A5, H⟩ := qBd H
  (try dsimp only at H)
  obtain ⟨ji6, hji6⟩ : ∃ j_ : Int, (IntKind.u64.wrap (t960)) = j_ := ⟨_, rfl⟩
  first | rw [hji6] at H | simp only [hji6] at H | skip
  (try rw [hji6] at A3)
  (try rw [hji6] at A5)
  by_cases c7 : 0 ≤ (ji6)
  rotate_left
  ·rw [if_neg c7] at H
   exact absurd H (by simp)
  rw [if_pos c7] at H
  have c7b0 := eq_true c7
  have c7b1 := decide_eq_true c7
  clear c7
  obtain ⟨ji8, hji8⟩ : ∃ j_ : Int, (shl .i64 1 (ji6)) = j_ := ⟨_, rfl⟩
  first | rw [hji8] at H | simp only [hji8] at H | skip
  (try rw [hji8] at A3)
  (try rw [hji8] at A5)
  have hji8_ : (IntKind.i64.wrap (1 * 2 ^ min (ji6).toNat 64)) = ji8 := hji8
  have hji8z : (ji6) ≤ 64 → (IntKind.i64.wrap (1 * 2 ^ (ji6).toNat)) = ji8 := shl_small hji8
  have hji8u : (IntKind.i64.wrap (2 ^ min (ji6).toNat 64)) = ji8 := by have h_ := hji8_; rw [Int.one_mul] at h_; exact h_
  have hji8v : (ji6) ≤ 64 → (IntKind.i64.wrap (2 ^ (ji6).toNat)) = ji8 := fun hle_ => by have h_ := hji8z hle_; rw [Int.one_mul] at h_; exact h_
  have hji8y : (wrap64 (1 * 2 ^ min (ji6).toNat 64)) = ji8 := (i64_w _).symm.trans hji8_
  have hji8x : (ji6) ≤ 64 → (wrap64 (1 * 2 ^ (ji6).toNat)) = ji8 := fun h_ => (i64_w _).symm.trans (hji8z h_)
  obtain ⟨t963, A9, H⟩ := qBd H
  obtain ⟨y966, hy966⟩ : ∃ y_ : List Int, y_ = (([5] : List Int)) := ⟨_, rfl⟩
  replace H : (if y966.length + l1.length < 140737488355328 then ((spec_A2Linear.f k (y966 ++ l1) t960 t961 5).bind fun t972 => ((spec_A2Element.f k l0 t960 t961 3).bind fun t975 => ((spec_A2Element.f k l0 t960 t961 4).bind fun t976 => ((impl_ValueOf.f k t960 t961 t963 t975).bind fun bt977 => ((impl_ValueOf.f k t960 t961 t963 t976).bind fun bt979 => ((impl_ValueOf.f k t960 t961 t963 (Go.bits .xor .i64 t975 t976)).bind fun bt981 => ((impl_ValueOf.f k t960 t961 t972 t975).bind fun bt983 => (if bt977.2 = 0 then (if bt979.2 = 0 then (if bt981.2 = 0 then (if bt983.2 = 0 then (if bt981.1 = (Go.bits .xor .i64 bt977.1 bt979.1) then (if bt983.1 < 0 then (laws_FnLinearMaps.j0 k ji8 t963 t972 t975 bt977.1 bt983.1 true t960 t961) else (laws_FnLinearMaps.j0 k ji8 t963 t972 t975 bt977.1 bt983.1 (decide (bt983.1 ≥ (ji8))) t960 t961)) else (laws_FnLinearMaps.j0 k ji8 t963 t972 t975 bt977.1 bt983.1 true t960 t961)) else (laws_FnLinearMaps.j0 k ji8 t963 t972 t975 bt977.1 bt983.1 true t960 t961)) else (laws_FnLinearMaps.j0 k ji8 t963 t972 t975 bt977.1 bt983.1 true t960 t961)) else (laws_FnLinearMaps.j0 k ji8 t963 t972 t975 bt977.1 bt983.1 true t960 t961)) else (laws_FnLinearMaps.j0 k ji8 t963 t972 t975 bt977.1 bt983.1 true t960 t961))))))))) else (none)) = some r := by first | (rw [hy966]; with_reducible exact H) | (have H2_ := (Option.bind_some _ _).symm.trans H; rw [hy966]; with_reducible exact H2_) | (have H2_ := (Option.bind_some _ _).symm.trans H; with_reducible exact H2_) | with_reducible exact H | (rw [hy966]; exact H) | exact H
  have Ny966 := Aq.mk hy966
  clear hy966
  by_cases c10 : y966.length + l1.length < 140737488355328
  rotate_left
  ·rw [if_neg c10] at H
   exact absurd H (by simp)
  rw [if_pos c10] at H
  have LMc10 := Aq.mk c10
  clear c10
  obtain ⟨y969, hy969⟩ : ∃ y_ : List Int, y_ = (y966 ++ l1) := ⟨_, rfl⟩
  replace H : ((spec_A2Linear.f k y969 t960 t961 5).bind fun t972 => ((spec_A2Element.f k l0 t960 t961 3).bind fun t975 => ((spec_A2Element.f k l0 t960 t961 4).bind fun t976 => ((impl_ValueOf.f k t960 t961 t963 t975).bind fun bt977 => ((impl_ValueOf.f k t960 t961 t963 t976).bind fun bt979 => ((impl_ValueOf.f k t960 t961 t963 (Go.bits .xor .i64 t975 t976)).bind fun bt981 => ((impl_ValueOf.f k t960 t961 t972 t975).bind fun bt983 => (if bt977.2 = 0 then (if bt979.2 = 0 then (if bt981.2 = 0 then (if bt983.2 = 0 then (if bt981.1 = (Go.bits .xor .i64 bt977.1 bt979.1) then (if bt983.1 < 0 then (laws_FnLinearMaps.j0 k ji8 t963 t972 t975 bt977.1 bt983.1 true t960 t961) else (laws_FnLinearMaps.j0 k ji8 t963 t972 t975 bt977.1 bt983.1 (decide (bt983.1 ≥ (ji8))) t960 t961)) else (laws_FnLinearMaps.j0 k ji8 t963 t972 t975 bt977.1 bt983.1 true t960 t961)) else (laws_FnLinearMaps.j0 k ji8 t963 t972 t975 bt977.1 bt983.1 true t960 t961)) else (laws_FnLinearMaps.j0 k ji8 t963 t972 t975 bt977.1 bt983.1 true t960 t961)) else (laws_FnLinearMaps.j0 k ji8 t963 t972 t975 bt977.1 bt983.1 true t960 t961)) else (laws_FnLinearMaps.j0 k ji8 t963 t972 t975 bt977.1 bt983.1 true t960 t961))))))))) = some r := by first | (rw [hy969]; with_reducible exact H) | (have H2_ := (Option.bind_some _ _).symm.trans H; rw [hy969]; with_reducible exact H2_) | (have H2_ := (Option.bind_some _ _).symm.trans H; with_reducible exact H2_) | with_reducible exact H | (rw [hy969]; exact H) | exact H
  have Ny969 := Aq.mk hy969
  clear hy969
  obtain ⟨t972, A11, H⟩ := qBd H
  obtain ⟨t975, A12, H⟩ := qBd H
  obtain ⟨t976, A13, H⟩ := qBd H
  obtain ⟨⟨t977, t978⟩, A14, H⟩ := qBd H
  (try dsimp only at H)
  obtain ⟨⟨t979, t980⟩, A15, H⟩ := qBd H
  (try dsimp only at H)
  obtain ⟨⟨t981, t982⟩, A16, H⟩ := qBd H
  (try dsimp only at H)
  obtain ⟨⟨t983, t984⟩, A17, H⟩ := qBd H
  (try dsimp only at H)
  have HC18 := Aq.mk H
  clear H
  go_enter Try.func7, Try.ntmps7
  try go_wp2_with (first | ((with_reducible refine gQc (f := 17) rfl ?_); refine goesL_ (some 39) rfl rfl Try.func17 (by kernel_rfl) rfl #[.slice A0 l0.length c0, .slice A1 l1.length c1] rfl tL ?_; (with_reducible refine (laws_a2Long.calls _ _ l0 _ _ l1 false _ ?s1 ?s2 ?s3 ?s4 A3.out).mono ?_); (case s1 => exact tC HR0.out); (case s2 => exact HC0.out); (case s3 => exact tC HR1.out); (case s4 => exact HC1.out); rintro e w' ⟨rfl, ⟨nd, rfl⟩⟩; refine ⟨_, rfl, ?_⟩) | ((with_reducible refine gQc (f := 18) rfl ?_); refine goesL_ (some 41) rfl rfl Try.func18 (by kernel_rfl) rfl #[.slice A0 l0.length c0] rfl tL ?_; (with_reducible refine (spec_A2Field.calls k _ _ l0 t960 t961 _ ?s1 ?s2 A5.out).mono ?_); (case s1 => exact tC HR0.out); (case s2 => exact HC0.out); rintro e w19 ⟨rfl, hb⟩; refine ⟨_, rfl, ?_⟩; refine qM1 (bQT tB hb) ?_; clear HB; intro HB; (try clear hb); (try clear hb2); (try clear hk); (try clear hi)) | ((with_reducible refine gQd (N := 5) rfl ?_); (try (refine gate_guard (by rfl) ?_; dsimp only)); refine xQe ?hg (N := 5) ?hd (cs := #[.int .i64 0, .int .i64 0]) (t := 27) ?hr ?_; (case hd => rfl); (case hg => rfl); (case hr => exact tH); intro gb962 hg w20 hbox hb; refine qM4 (bQT tB hb) hbox (tZ w hg) (tZ w hg) ?_; clear HB; intro HB BK962 GW962 GE962; clear hb hbox hg; have hcz21_0 : w20.cell? ⟨gb962, 0, none⟩ = some (.int .i64 0) := (kQC BK962.out 0).trans rfl; have hcz21_1 : w20.cell? ⟨gb962, 1, none⟩ = some (.int .i64 0) := (kQC BK962.out 1).trans rfl; have hfz21_0 := kQF BK962.out 0; have hfz21_1 := kQF BK962.out 1) | ((with_reducible refine gQc (f := 19) rfl ?_); refine goesL_ (some 48) rfl rfl Try.func19 (by kernel_rfl) rfl #[.slice A1 l1.length c1, .agg #[.int .i64 t960, .int .i64 t961], .int .i64 5] rfl tL ?_; (with_reducible refine (spec_A2Linear.calls k _ _ l1 t960 t961 5 t963 _ ?s1 ?s2 A9.out).mono ?_); (case s1 => exact Kd.C_below HR1.out tB); (case s2 => exact HC1.out); rintro e w22 ⟨v964, rfl, ho0, hb⟩; refine ⟨_, rfl, ?_⟩; refine qM3 (Kd.R_lower ho0 (bQZ tB)) (kQB (g := gb962) (o := .cells #[.int .i64 t960, .int .i64 t961] 27 (0, 0)) (by (with_reducible repeat (first | refine kQN ?_ _ | refine kQD ?_ | refine kQA ?_ _)); refine kQP (cs := #[.int .i64 t960, .int .i64 0]) ?_ 1 _ rfl; (with_reducible repeat (first | refine kQN ?_ _ | refine kQD ?_ | refine kQA ?_ _)); refine kQP (cs := #[.int .i64 0, .int .i64 0]) ?_ 0 _ rfl; (with_reducible repeat (first | refine kQN ?_ _ | refine kQD ?_ | refine kQA ?_ _)); exact BK962.out) hb) (bQT tB hb) ?_; clear BK962 HB; intro HO965 BK962 HB; (try clear hb); (try clear hb2); (try clear hk); (try clear hi); (try clear ho0)))
  have n0_ := Aq.mk (Kd.RqD HO965.out)
  have n1_ := Aq.mk (kQD BK962.out)
  have n2_ := Aq.mk (bQ1 HB.out)
  clear HO965
  clear BK962
  clear HB
  have HO965 := n0_
  have BK962 := n1_
  have HB := n2_
  clear n0_ n1_ n2_
  refine start_ (n := 6) (S := fun w' => w'.cell? ⟨gb962, 0, none⟩ = some (.int .i64 t960) ∧ w'.cell? ⟨gb962, 1, none⟩ = some (.int .i64 t961)) (ds := []) #[false, false, false, false, false, false] (by kernel_rfl) rfl rfl ⟨(kQC BK962.out 0).trans rfl, (kQC BK962.out 1).trans rfl⟩ (fun hHeld => ?_)
  generalize w22.drew = w23 at HO965 BK962 HB hHeld ⊢
  refine tP0k 1 50 (bm 6 2) ?_
  refine tT2k 3 52 (bm 6 10) ?_
  refine one_ (i := 0) (N := some 49) (bm 6 11) rfl rfl (by kernel_rfl) (by decide) (fun K hK => ?_)
  refine Kd.R_lit_step (Kd.int .u8) _ 5 ?hg (N := 49) ?hd (xs := ([5] : List Int)) (inner := [.int .u8 5]) (ok := fun _ => True) (okp := fun _ => True) ?hr ?hp (fun _ hk => hk) trivial (Below.refl _ _) (Nat.le_refl _) (by simp) ?_; (case hd => rfl); (case hg => rfl); (case hr => exact tH); (case hp => exact (Reps.one (show Kd.M (Kd.int .u8) _ _ _ 5 [.int .u8 5] from rfl) (Reps.none _ _)))
  intro v967 w24 ho25 hb hg_ hnew_
  clear hg_ hnew_
  (first | rw [← Ny966.out] at ho25 | (simp only [Int.reduceToNat] at ho25; rw [← Ny966.out] at ho25))
  have n0_ := Aq.mk (Kd.R_below (tR HO965.out) hb)
  have n1_ := Aq.mk (Kd.R_lower ho25 (bQZ tB))
  have n2_ := Aq.mk (tQ BK962.out hb)
  have n3_ := Aq.mk (bQT tB hb)
  clear HO965
  clear BK962
  clear HB
  have HO965 := n0_
  have HO968 := n1_
  have BK962 := n2_
  have HB := n3_
  clear n0_ n1_ n2_ n3_
  clear hb ho25
  refine hK.out _ _ ⟨(kQC BK962.out 0).trans rfl, (kQC BK962.out 1).trans rfl⟩ (fun hHeld => ?_)
  clear hK K
  refine tN 49 ?_
  refine one_ (i := 2) (N := some 51) (bm 6 15) rfl rfl (by kernel_rfl) (by decide) (fun K hK => ?_)
  refine Kd.R_append_rows_step (Kd.int .u8) (w0 := w) w.heap.size (by rfl) (.tmp 49) (.tmp 50) 33 5 (.int .u8 0) 1 rfl Try.underlying33 info5 rfl (by decide) (by omega) v967 y966 l1 _ _ _ (fun _ => True) (fun _ => False) rfl rfl ?aO ?aR (fun _ _ h => h) (fun _ h => h.elim) ?aF ?aB ?aS ?aL ?_
  (case aR => exact tC ((Kd.C_below HR1.out HB.out)))
  (case aB => exact tB)
  (case aF => exact (fun _ _ => trivial))
  (case aO => exact (tR HO968.out))
  (case aS => exact (bQZ tB))
  (case aL => have := LMc10.out; omega)
  intro v970 w26 ho hb hg hat
  rw [← Ny969.out] at ho
  have n0_ := Aq.mk (blk_grown (g := gb962) (o := .cells #[.int .i64 t960, .int .i64 t961] 27 (0, 0)) (tG BK962.out) hg (Kd.R_ne HO968.out BK962.out (by decide)))
  have n1_ := Aq.mk (Kd.R_over' (tR HO965.out) (Kd.R_typed (tR HO968.out)) (by decide) hg)
  have n2_ := Aq.mk (hb)
  have n3_ := Aq.mk (ho)
  clear BK962
  clear HO965
  clear HB
  clear HO968
  have BK962 := n0_
  have HO965 := n1_
  have HB := n2_
  have HO971 := n3_
  clear n0_ n1_ n2_ n3_
  clear ho hb hg hat
  obtain ⟨Ao27, co27, eo27⟩ := Kd.R_slice HO971.out
  (first | subst eo27 | (injection eo27 with f1_ f2_ f3_; have f4_ := f1_.symm; have f5_ := f3_.symm; clear f1_ f2_ f3_; subst f4_; subst f5_))
  refine hK.out _ _ ⟨(kQC BK962.out 0).trans rfl, (kQC BK962.out 1).trans rfl⟩ (fun hHeld => ?_)
  clear hK K
  refine tN 51 ?_
  refine one_ (i := 4) (N := some 53) (bm 6 31) rfl rfl (by kernel_rfl) (by decide) (fun K hK => ?_)
  refine goes_ Try.func19 (by kernel_rfl) rfl #[.slice Ao27 y969.length co27, .agg #[.int .i64 t960, .int .i64 t961], .int .i64 5] (by rfl) rfl rfl tL ?_
  with_reducible refine (spec_A2Linear.calls k _ _ y969 t960 t961 5 t972 _ ?s1 ?s2 A11.out).mono ?_
  (case s1 => exact tC ((Kd.R_reads' HO971.out).2.2))
  (case s2 => exact (Kd.R_reads' HO971.out).2.1)
  rintro e w28 ⟨v973, rfl, ho0, hb⟩
  refine ⟨_, rfl, ?_⟩
  have n0_ := Aq.mk (Kd.R_elder' (tR HO965.out) (Kd.R_base ho0) hb)
  have n1_ := Aq.mk (Kd.R_below (tR HO971.out) hb)
  have n2_ := Aq.mk (Kd.R_lower (Kd.R_new' ho0 (Kd.R_lt (tR HO965.out))) (bQZ tB))
  have n3_ := Aq.mk (tQ BK962.out hb)
  have n4_ := Aq.mk (bQT tB hb)
  clear HO965
  clear HO971
  clear BK962
  clear HB
  have HO965 := n0_
  have HO971 := n1_
  have HO974 := n2_
  have BK962 := n3_
  have HB := n4_
  clear n0_ n1_ n2_ n3_ n4_
  (try clear hb)
  (try clear hb2)
  (try clear hk)
  (try clear hi)
  (try clear ho0)
  refine hK.out _ _ ⟨(kQC BK962.out 0).trans rfl, (kQC BK962.out 1).trans rfl⟩ (fun hHeld => ?_)
  clear hK K
  refine tN 53 ?_
  refine tP0k 5 8 (bm 6 63) ?_
  refine done_ (by kernel_rfl) ?_
  have hcz29_0 : w28.cell? ⟨gb962, 0, none⟩ = some (.int .i64 t960) := (kQC BK962.out 0).trans rfl
  have hcz29_1 : w28.cell? ⟨gb962, 1, none⟩ = some (.int .i64 t961) := (kQC BK962.out 1).trans rfl
  have hfz29_0 := kQF BK962.out 0
  have hfz29_1 := kQF BK962.out 1
  go_upto_region 13 with (first | ((with_reducible refine gQc (f := 26) rfl ?_); refine goesL_ (some 56) rfl rfl Try.func26 (by kernel_rfl) rfl #[.slice A0 l0.length c0, .agg #[.int .i64 t960, .int .i64 t961], .int .i64 3] rfl tL ?_; (with_reducible refine (spec_A2Element.calls k _ _ l0 t960 t961 3 t975 _ ?s1 ?s2 A12.out).mono ?_); (case s1 => exact tC ((Kd.C_below HR0.out HB.out))); (case s2 => exact HC0.out); rintro e w30 ⟨rfl, hb⟩; refine ⟨_, rfl, ?_⟩; refine qM5 (Kd.R_below (tR HO965.out) hb) (Kd.R_below (tR HO971.out) hb) (Kd.R_below (tR HO974.out) hb) (tQ BK962.out hb) (bQT tB hb) ?_; clear HO965 HO971 HO974 BK962 HB; intro HO965 HO971 HO974 BK962 HB; (try clear hb); (try clear hb2); (try clear hk); (try clear hi); have hcz31_0 : w30.cell? ⟨gb962, 0, none⟩ = some (.int .i64 t960) := (kQC BK962.out 0).trans rfl; have hcz31_1 : w30.cell? ⟨gb962, 1, none⟩ = some (.int .i64 t961) := (kQC BK962.out 1).trans rfl; have hfz31_0 := kQF BK962.out 0; have hfz31_1 := kQF BK962.out 1) | ((with_reducible refine gQc (f := 26) rfl ?_); refine goesL_ (some 59) rfl rfl Try.func26 (by kernel_rfl) rfl #[.slice A0 l0.length c0, .agg #[.int .i64 t960, .int .i64 t961], .int .i64 4] rfl tL ?_; (with_reducible refine (spec_A2Element.calls k _ _ l0 t960 t961 4 t976 _ ?s1 ?s2 A13.out).mono ?_); (case s1 => exact tC ((Kd.C_below HR0.out HB.out))); (case s2 => exact HC0.out); rintro e w32 ⟨rfl, hb⟩; refine ⟨_, rfl, ?_⟩; refine qM5 (Kd.R_below (tR HO965.out) hb) (Kd.R_below (tR HO971.out) hb) (Kd.R_below (tR HO974.out) hb) (tQ BK962.out hb) (bQT tB hb) ?_; clear HO965 HO971 HO974 BK962 HB; intro HO965 HO971 HO974 BK962 HB; (try clear hb); (try clear hb2); (try clear hk); (try clear hi); have hcz33_0 : w32.cell? ⟨gb962, 0, none⟩ = some (.int .i64 t960) := (kQC BK962.out 0).trans rfl; have hcz33_1 : w32.cell? ⟨gb962, 1, none⟩ = some (.int .i64 t961) := (kQC BK962.out 1).trans rfl; have hfz33_0 := kQF BK962.out 0; have hfz33_1 := kQF BK962.out 1; obtain ⟨Ao34, co34, eo34⟩ := Kd.R_slice HO965.out; subst eo34) | ((with_reducible refine gQc (f := 27) rfl ?_); refine goesL_ (some 64) rfl rfl Try.func27 (by kernel_rfl) rfl #[.agg #[.int .i64 t960, .int .i64 t961], .slice Ao34 t963.length co34, .int .i64 t975] rfl tL ?_; (with_reducible refine (impl_ValueOf.calls k t960 t961 (fun k_ => some k_ = (.slice Ao34 t963.length co34 : Value).ownBlock) _ _ t963 t975 t977 t978 _ ?s1 A14.out).mono ?_); (case s1 => exact Kd.R_V (Kd.R_tight rfl (Kd.R_types (Kd.R_apart' (HO965.out) (Kd.R_typed HO971.out) (by decide)) BK962.out (by decide)))); rintro e w35 ⟨rfl, hb⟩; refine ⟨_, rfl, ?_⟩; refine qM5 (Kd.R_below (tR HO965.out) hb) (Kd.R_below (tR HO971.out) hb) (Kd.R_below (tR HO974.out) hb) (tQ BK962.out hb) (bQT tB hb) ?_; clear HO965 HO971 HO974 BK962 HB; intro HO965 HO971 HO974 BK962 HB; (try clear hb); (try clear hb2); (try clear hk); (try clear hi); have hcz36_0 : w35.cell? ⟨gb962, 0, none⟩ = some (.int .i64 t960) := (kQC BK962.out 0).trans rfl; have hcz36_1 : w35.cell? ⟨gb962, 1, none⟩ = some (.int .i64 t961) := (kQC BK962.out 1).trans rfl; have hfz36_0 := kQF BK962.out 0; have hfz36_1 := kQF BK962.out 1) | ((with_reducible refine gQc (f := 27) rfl ?_); refine goesL_ (some 71) rfl rfl Try.func27 (by kernel_rfl) rfl #[.agg #[.int .i64 t960, .int .i64 t961], .slice Ao34 t963.length co34, .int .i64 t976] rfl tL ?_; (with_reducible refine (impl_ValueOf.calls k t960 t961 (fun k_ => some k_ = (.slice Ao34 t963.length co34 : Value).ownBlock) _ _ t963 t976 t979 t980 _ ?s1 A15.out).mono ?_); (case s1 => exact Kd.R_V (Kd.R_tight rfl (Kd.R_types (Kd.R_apart' (HO965.out) (Kd.R_typed HO971.out) (by decide)) BK962.out (by decide)))); rintro e w37 ⟨rfl, hb⟩; refine ⟨_, rfl, ?_⟩; refine qM5 (Kd.R_below (tR HO965.out) hb) (Kd.R_below (tR HO971.out) hb) (Kd.R_below (tR HO974.out) hb) (tQ BK962.out hb) (bQT tB hb) ?_; clear HO965 HO971 HO974 BK962 HB; intro HO965 HO971 HO974 BK962 HB; (try clear hb); (try clear hb2); (try clear hk); (try clear hi); have hcz38_0 : w37.cell? ⟨gb962, 0, none⟩ = some (.int .i64 t960) := (kQC BK962.out 0).trans rfl; have hcz38_1 : w37.cell? ⟨gb962, 1, none⟩ = some (.int .i64 t961) := (kQC BK962.out 1).trans rfl; have hfz38_0 := kQF BK962.out 0; have hfz38_1 := kQF BK962.out 1) | ((with_reducible refine gQc (f := 27) rfl ?_); refine goesL_ (some 80) rfl rfl Try.func27 (by kernel_rfl) rfl #[.agg #[.int .i64 t960, .int .i64 t961], .slice Ao34 t963.length co34, .int .i64 (Go.bits .xor .i64 t975 t976)] rfl tL ?_; (with_reducible refine (impl_ValueOf.calls k t960 t961 (fun k_ => some k_ = (.slice Ao34 t963.length co34 : Value).ownBlock) _ _ t963 (Go.bits .xor .i64 t975 t976) t981 t982 _ ?s1 A16.out).mono ?_); (case s1 => exact Kd.R_V (Kd.R_tight rfl (Kd.R_types (Kd.R_apart' (HO965.out) (Kd.R_typed HO971.out) (by decide)) BK962.out (by decide)))); rintro e w39 ⟨rfl, hb⟩; refine ⟨_, rfl, ?_⟩; refine qM5 (Kd.R_below (tR HO965.out) hb) (Kd.R_below (tR HO971.out) hb) (Kd.R_below (tR HO974.out) hb) (tQ BK962.out hb) (bQT tB hb) ?_; clear HO965 HO971 HO974 BK962 HB; intro HO965 HO971 HO974 BK962 HB; (try clear hb); (try clear hb2); (try clear hk); (try clear hi); have hcz40_0 : w39.cell? ⟨gb962, 0, none⟩ = some (.int .i64 t960) := (kQC BK962.out 0).trans rfl; have hcz40_1 : w39.cell? ⟨gb962, 1, none⟩ = some (.int .i64 t961) := (kQC BK962.out 1).trans rfl; have hfz40_0 := kQF BK962.out 0; have hfz40_1 := kQF BK962.out 1; obtain ⟨Ao41, co41, eo41⟩ := Kd.R_slice HO974.out; subst eo41) | ((with_reducible refine gQc (f := 27) rfl ?_); refine goesL_ (some 87) rfl rfl Try.func27 (by kernel_rfl) rfl #[.agg #[.int .i64 t960, .int .i64 t961], .slice Ao41 t972.length co41, .int .i64 t975] rfl tL ?_; (with_reducible refine (impl_ValueOf.calls k t960 t961 (fun k_ => some k_ = (.slice Ao41 t972.length co41 : Value).ownBlock) _ _ t972 t975 t983 t984 _ ?s1 A17.out).mono ?_); (case s1 => exact Kd.R_V (Kd.R_tight rfl (Kd.R_types (Kd.R_apart' (HO974.out) (Kd.R_typed HO971.out) (by decide)) BK962.out (by decide)))); rintro e w42 ⟨rfl, hb⟩; refine ⟨_, rfl, ?_⟩; refine qM5 (Kd.R_below (tR HO965.out) hb) (Kd.R_below (tR HO971.out) hb) (Kd.R_below (tR HO974.out) hb) (tQ BK962.out hb) (bQT tB hb) ?_; clear HO965 HO971 HO974 BK962 HB; intro HO965 HO971 HO974 BK962 HB; (try clear hb); (try clear hb2); (try clear hk); (try clear hi)))
  (try simp only [Act.put, qSa, qSb, qSc])
  go_cut [119] (fun v119 wc => ∃ (kq : Nat) (x119_17 : Bool), v119 = .bool x119_17 ∧ Aq (laws_FnLinearMaps.j0 kq ji8 t963 t972 t975 t977 t983 x119_17 t960 t961 = some r) ∧ Aq (kq ≤ k) ∧ Aq (Kd.R (Kd.int .i64) 2 wc w.heap.size (fun k_ => some k_ ≠ ((.slice Ao41 t972.length co41) : Value).ownBlock) (.slice Ao34 t963.length co34) t963) ∧ Aq (Kd.R (Kd.int .i64) 2 wc w.heap.size (fun k_ => some k_ ≠ ((.slice Ao34 t963.length co34) : Value).ownBlock) (.slice Ao41 t972.length co41) t972) ∧ Aq (wc.heap[gb962]? = some (.cells #[.int .i64 t960, .int .i64 t961] 27 (0, 0))) ∧ Aq (Below w.heap.size w wc))
  case first =>
   have H := HC18.out
   clear HC18
   by_cases c43 : t978 = 0
   rotate_left
   ·rw [if_neg c43] at H
    have c43b0 := beq_eq_false_iff_ne.mpr c43
    have c43b1 := bne_iff_ne.mpr c43
    (first | rw [c43b0] | (simp only [i64_w, i32_w]; rw [c43b0]) | skip)
    replace H' := Aq.mk H
    clear H
    go_wp2
    go_meet
    case rel => exact ⟨_, (true), tS, H', ⟨tO⟩, ⟨by (with_reducible repeat (first | apply Kd.RqA | apply Kd.RqN | apply Kd.RqD)); exact Kd.R_mono HO965.out (fun _ hk => hk.2)⟩, ⟨by (with_reducible repeat (first | apply Kd.RqA | apply Kd.RqN | apply Kd.RqD)); exact Kd.R_mono HO974.out (fun _ hk => hk.2)⟩, ⟨tG BK962.out⟩, ⟨tB⟩⟩
   rw [if_pos c43] at H
   have c43b0 := beq_iff_eq.mpr c43
   have c43b1 := bne_eq_false_iff_eq.mpr c43
   clear c43
   (first | rw [c43b0] | (simp only [i64_w, i32_w]; rw [c43b0]) | skip)
   by_cases c44 : t980 = 0
   rotate_left
   ·rw [if_neg c44] at H
    have c44b0 := beq_eq_false_iff_ne.mpr c44
    have c44b1 := bne_iff_ne.mpr c44
    replace H' := Aq.mk H
    clear H
    go_wp2
    go_meet
    case rel => exact ⟨_, (true), tS, H', ⟨tO⟩, ⟨by (with_reducible repeat (first | apply Kd.RqA | apply Kd.RqN | apply Kd.RqD)); exact Kd.R_mono HO965.out (fun _ hk => hk.2)⟩, ⟨by (with_reducible repeat (first | apply Kd.RqA | apply Kd.RqN | apply Kd.RqD)); exact Kd.R_mono HO974.out (fun _ hk => hk.2)⟩, ⟨tG BK962.out⟩, ⟨tB⟩⟩
   rw [if_pos c44] at H
   have c44b0 := beq_iff_eq.mpr c44
   have c44b1 := bne_eq_false_iff_eq.mpr c44
   clear c44
   by_cases c45 : t982 = 0
   rotate_left
   ·rw [if_neg c45] at H
    have c45b0 := beq_eq_false_iff_ne.mpr c45
    have c45b1 := bne_iff_ne.mpr c45
    replace H' := Aq.mk H
    clear H
    go_wp2
    go_meet
    case rel => exact ⟨_, (true), tS, H', ⟨tO⟩, ⟨by (with_reducible repeat (first | apply Kd.RqA | apply Kd.RqN | apply Kd.RqD)); exact Kd.R_mono HO965.out (fun _ hk => hk.2)⟩, ⟨by (with_reducible repeat (first | apply Kd.RqA | apply Kd.RqN | apply Kd.RqD)); exact Kd.R_mono HO974.out (fun _ hk => hk.2)⟩, ⟨tG BK962.out⟩, ⟨tB⟩⟩
   rw [if_pos c45] at H
   have c45b0 := beq_iff_eq.mpr c45
   have c45b1 := bne_eq_false_iff_eq.mpr c45
   clear c45
   by_cases c46 : t984 = 0
   rotate_left
   ·rw [if_neg c46] at H
    have c46b0 := beq_eq_false_iff_ne.mpr c46
    have c46b1 := bne_iff_ne.mpr c46
    replace H' := Aq.mk H
    clear H
    go_wp2
    go_meet
    case rel => exact ⟨_, (true), tS, H', ⟨tO⟩, ⟨by (with_reducible repeat (first | apply Kd.RqA | apply Kd.RqN | apply Kd.RqD)); exact Kd.R_mono HO965.out (fun _ hk => hk.2)⟩, ⟨by (with_reducible repeat (first | apply Kd.RqA | apply Kd.RqN | apply Kd.RqD)); exact Kd.R_mono HO974.out (fun _ hk => hk.2)⟩, ⟨tG BK962.out⟩, ⟨tB⟩⟩
   rw [if_pos c46] at H
   have c46b0 := beq_iff_eq.mpr c46
   have c46b1 := bne_eq_false_iff_eq.mpr c46
   clear c46
   by_cases c47 : t981 = (Go.bits .xor .i64 t977 t979)
   rotate_left
   ·rw [if_neg c47] at H
    have c47b0 := beq_eq_false_iff_ne.mpr c47
    have c47b1 := bne_iff_ne.mpr c47
    replace H' := Aq.mk H
    clear H
    go_wp2
    go_meet
    case rel => exact ⟨_, (true), tS, H', ⟨tO⟩, ⟨by (with_reducible repeat (first | apply Kd.RqA | apply Kd.RqN | apply Kd.RqD)); exact Kd.R_mono HO965.out (fun _ hk => hk.2)⟩, ⟨by (with_reducible repeat (first | apply Kd.RqA | apply Kd.RqN | apply Kd.RqD)); exact Kd.R_mono HO974.out (fun _ hk => hk.2)⟩, ⟨tG BK962.out⟩, ⟨tB⟩⟩
   rw [if_pos c47] at H
   have c47b0 := beq_iff_eq.mpr c47
   have c47b1 := bne_eq_false_iff_eq.mpr c47
   clear c47
   by_cases c48 : t983 < 0
   ·rw [if_pos c48] at H
    have c48b0 := decide_eq_true c48
    clear c48
    replace H' := Aq.mk H
    clear H
    go_wp2
    go_meet
    case rel => exact ⟨_, (true), tS, H', ⟨tO⟩, ⟨by (with_reducible repeat (first | apply Kd.RqA | apply Kd.RqN | apply Kd.RqD)); exact Kd.R_mono HO965.out (fun _ hk => hk.2)⟩, ⟨by (with_reducible repeat (first | apply Kd.RqA | apply Kd.RqN | apply Kd.RqD)); exact Kd.R_mono HO974.out (fun _ hk => hk.2)⟩, ⟨tG BK962.out⟩, ⟨tB⟩⟩
   rw [if_neg c48] at H
   have c48b0 := decide_eq_false c48
   clear c48
   replace H' := Aq.mk H
   clear H
   go_wp2
   go_meet
   case rel => exact ⟨_, (decide (t983 ≥ (ji8))), (by first | rfl | (simp; done) | (simp only [← hji8] <;> (first | rfl | simp)) | (simp [*]; done)), H', ⟨tO⟩, ⟨by (with_reducible repeat (first | apply Kd.RqA | apply Kd.RqN | apply Kd.RqD)); exact Kd.R_mono HO965.out (fun _ hk => hk.2)⟩, ⟨by (with_reducible repeat (first | apply Kd.RqA | apply Kd.RqN | apply Kd.RqD)); exact Kd.R_mono HO974.out (fun _ hk => hk.2)⟩, ⟨tG BK962.out⟩, ⟨tB⟩⟩
  rename_i za_0_0 za_0_1 za_0_2 za_0_3 za_0_4 za_0_5 za_0_6 za_0_7 za_0_8 za_0_9 za_0_10 za_0_11 za_0_12 za_0_13 za_0_14 za_0_15 za_0_16 za_0_17
  revert k A0 c0 l0 A1 c1 l1 r w hu27 HR0 HC0 HR1 HC1 za_0_0 A3 za_0_1 t960 t961 A5 ji6 hji6 c7b0 c7b1 ji8 za_0_2 hji8 hji8_ hji8z hji8u hji8v hji8y hji8x t963 A9 y966 Ny966 LMc10 y969 za_0_3 Ny969 t972 A11 za_0_4 t975 A12 za_0_5 t976 A13 za_0_6 t977 t978 A14 za_0_7 t979 t980 A15 za_0_8 t981 t982 A16 H t983 t984 A17 HC18 za_0_9 nd za_0_10 w19 gb962 w20 GW962 GE962 hcz21_0 hcz21_1 hfz21_0 hfz21_1 w22 w23 za_0_11 v967 w24 za_0_12 w26 Ao27 co27 za_0_13 w28 hHeld hcz29_0 hcz29_1 hfz29_0 hfz29_1 w30 hcz31_0 hcz31_1 hfz31_0 hfz31_1 w32 hcz33_0 hcz33_1 hfz33_0 hfz33_1 Ao34 co34 w35 hcz36_0 hcz36_1 hfz36_0 hfz36_1 w37 hcz38_0 hcz38_1 hfz38_0 hfz38_1 w39 hcz40_0 hcz40_1 hfz40_0 hfz40_1 Ao41 co41 w42 HO965 HO971 HO974 BK962 HB za_0_14 za_0_15 za_0_16 za_0_17 wc u37 u38 u39 u40 u41 u42 u43 u44 u45 u46 u47 u48 u49 u50 u51 u52 u53 u54 u55 u56 u57 u58 u59 u60 u61 u62 u63 u64 u65 u66 u67 u68 u69 u70 u71 u72 u73 u74 u75 u76 u77 u78 u79 u80 u81 u82 u83 u84 u85 u86 u87 u88 u89 u90 u91 u92 u93 u94 u95 u96 u97 u98 u99 u100 u101 u102 u103 u104 u105 u106 u107 u108 u109 u110 u111 u112 u113 u114 u115 u116 u117 u118 u119 u120 u121 u122 u123 u124 u125 u126 u127 u128 u129 u130 u131 u132 u133 u134 u135 u136 u137 u138 u139 u140 u141 u142 u143 u144 u145 u146 u147 u148 u149 u150 u151 u152 u153 u154 u155 u156 u157 u158 u159 u160 u161 u162 u163 u164 u165 u166 u167 u168 u169 u170 u171 u172 u173 u174 u175 u176 u177 u178 u179 u180 u181 u182 u183 u184 u185 u186 u187 u188 u189 u190 u191 u192 u193 u194 u195 u196 u197 u198 u199 u200 u201 u202 u203 u204 u205 u206 u207 u208 u209 u210 u211 u212 u213 u214 u215 u216 u217 u218 u219 u220 u221 u222 u223 u224 u225 u226 u227 u228 u229 u230 u231 u232 u233 u234 u235 u236 u237 u238 u239 u240 u241 u242 u243 u244 u245 u246 u247 u248 u249 u250 u251 u252 u253 u254 u255 u256 u257 u258 u259 u260 u261 u262 u263 u264 u265 u266 u267 u268 u269 u270 u271 u272 u273 u274 u275 u276 u277 u278 u279 u280 u281 u282 u283 u284 u285 u286 u287 u288 u289 u290 u291 u292 u293 hcut
  exact hG0_.out
end Go.Proofs.Ytkhjoomjjdgkjaa.P
