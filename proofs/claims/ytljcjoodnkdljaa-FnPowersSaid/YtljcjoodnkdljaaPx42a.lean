/- Functions of the program and what they tell, as the printing program wrote it. -/
import Derived.Test.YtljcjoodnkdljaaPx0
import Derived.Test.YtljcjoodnkdljaaPx5
import Derived.Test.YtljcjoodnkdljaaPx24
import Derived.Test.YtljcjoodnkdljaaPx25
import Derived.Test.YtljcjoodnkdljaaPx26
import Derived.Test.YtljcjoodnkdljaaPx27
import Derived.Test.YtljcjoodnkdljaaPx28
namespace Go.Proofs.Ytljcjoodnkdljaa.P
open Go.Shelf Go.RowKit Go.Proofs.YtljcjoodnkdljaaW.PrintWords Go.Proofs.YtljcjoodnkdljaaW.PrintLast Go.Proofs.YtljcjoodnkdljaaW.PrintMore
attribute [local go_sem] max2_int min2_int max_two min_two max_three min_three max_four min_four
set_option linter.unusedVariables false
set_option linter.unusedSimpArgs false
mutual
def laws_FnPowers.j0 : Nat → Int → Int → Int → Int → Int → Int → Int → Bool → Int → Int → Option (Bool)
  | 0, _, _, _, _, _, _, _, _, _, _ => none
  | k + 1, x6, x7, x8, x10, x11, x13, x15, x110, x540000, x540001 => if x110 = true then (some false) else ((impl_MulIn.f k x540000 x540001 x11 x13).bind fun bt550 => ((impl_SquareTimes.f k x540000 x540001 x7 x10).bind fun bt552 => ((impl_SquareTimes.f k x540000 x540001 x8 x10).bind fun bt554 => ((impl_SquareTimes.f k x540000 x540001 (Go.bits .xor .i64 x7 x8) x10).bind fun bt556 => (if bt550.2 = 0 then (if bt550.1 = x15 then (if bt552.2 = 0 then (if bt554.2 = 0 then (if bt556.2 = 0 then (if bt552.1 < 0 then (laws_FnPowers.j1 k x6 x7 x10 bt552.1 true x540000 x540001) else (if bt552.1 ≥ x6 then (laws_FnPowers.j1 k x6 x7 x10 bt552.1 true x540000 x540001) else (laws_FnPowers.j1 k x6 x7 x10 bt552.1 (bt556.1 != (Go.bits .xor .i64 bt552.1 bt554.1)) x540000 x540001))) else (laws_FnPowers.j1 k x6 x7 x10 bt552.1 true x540000 x540001)) else (laws_FnPowers.j1 k x6 x7 x10 bt552.1 true x540000 x540001)) else (laws_FnPowers.j1 k x6 x7 x10 bt552.1 true x540000 x540001)) else (laws_FnPowers.j1 k x6 x7 x10 bt552.1 true x540000 x540001)) else (laws_FnPowers.j1 k x6 x7 x10 bt552.1 true x540000 x540001))))))
def laws_FnPowers.j1 : Nat → Int → Int → Int → Int → Bool → Int → Int → Option (Bool)
  | 0, _, _, _, _, _, _, _ => none
  | k + 1, x6, x7, x10, x19, x175, x540000, x540001 => if x175 = true then (some false) else ((impl_RootTimes.f k x540000 x540001 x19 x10).bind fun bt558 => ((impl_SquareTimes.f k x540000 x540001 x7 x540000).bind fun bt560 => ((impl_FirstPrimitive.f k x540000 x540001).bind fun bt562 => (if bt558.2 = 0 then (if bt560.2 = 0 then (if bt562.2 = 0 then (if bt558.1 = x7 then (if bt560.1 = x7 then (if bt562.1 < 1 then (laws_FnPowers.j2 k x6 x7 bt562.1 true x540000 x540001) else (laws_FnPowers.j2 k x6 x7 bt562.1 (decide (bt562.1 ≥ x6)) x540000 x540001)) else (laws_FnPowers.j2 k x6 x7 bt562.1 true x540000 x540001)) else (laws_FnPowers.j2 k x6 x7 bt562.1 true x540000 x540001)) else (laws_FnPowers.j2 k x6 x7 bt562.1 true x540000 x540001)) else (laws_FnPowers.j2 k x6 x7 bt562.1 true x540000 x540001)) else (laws_FnPowers.j2 k x6 x7 bt562.1 true x540000 x540001)))))
def laws_FnPowers.j2 : Nat → Int → Int → Int → Bool → Int → Int → Option (Bool)
  | 0, _, _, _, _, _, _ => none
  | k + 1, x6, x7, x29, x224, x540000, x540001 => if x224 = true then (some false) else ((impl_OrderIn.f k x540000 x540001 x29).bind fun bt564 => ((impl_LogIn.f k x540000 x540001 x29 x7).bind fun bt566 => (if bt564.2 = 0 then (if bt564.1 = (wrap64 (x6 - 1)) then (laws_FnPowers.j3 k x6 x7 x29 bt566.1 bt566.2 ((bt566.2 == 0) != (x7 != 0)) x540000 x540001) else (laws_FnPowers.j3 k x6 x7 x29 bt566.1 bt566.2 true x540000 x540001)) else (laws_FnPowers.j3 k x6 x7 x29 bt566.1 bt566.2 true x540000 x540001))))
def laws_FnPowers.j3 : Nat → Int → Int → Int → Int → Int → Bool → Int → Int → Option (Bool)
  | 0, _, _, _, _, _, _, _, _ => none
  | k + 1, x6, x7, x29, x33, x34, x252, x540000, x540001 => if x252 = true then (some false) else (if x7 = 0 then (some (x34 == 6)) else (if x33 < 0 then (laws_FnPowers.j4 k x6 x7 x29 x33 true x540000 x540001) else (laws_FnPowers.j4 k x6 x7 x29 x33 (decide (x33 ≥ x6)) x540000 x540001)))
def laws_FnPowers.j4 : Nat → Int → Int → Int → Int → Bool → Int → Int → Option (Bool)
  | 0, _, _, _, _, _, _, _ => none
  | k + 1, x6, x7, x29, x33, x263, x540000, x540001 => if x263 = true then (some false) else ((impl_PowerIn.f k x540000 x540001 x29 x33).bind fun bt568 => ((impl_OrderIn.f k x540000 x540001 x7).bind fun bt570 => (if bt568.2 = 0 then (if bt570.2 = 0 then (if bt568.1 = x7 then (if bt570.1 < 1 then (some false) else (if bt570.1 = 0 then (none) else (if (Int.tmod (wrap64 (x6 - 1)) bt570.1) = 0 then ((impl_PowerIn.f k x540000 x540001 x7 bt570.1).bind fun bt572 => (if bt572.2 = 0 then (some (bt572.1 == 1)) else (some false))) else (some false)))) else (some false)) else (some false)) else (some false))))
end
def laws_FnPowers.f (k : Nat) (l0 : List Int) (l1 : List Int) : Option (Bool) := (laws_a2Long.f l0 l1).bind fun t536 => (if t536 = true then (some true) else ((spec_A2Field.f k l0).bind fun bt537 => (if 0 ≤ (IntKind.u64.wrap (bt537.1)) then ((spec_A2Element.f k l1 bt537.1 bt537.2 0).bind fun t540 => ((spec_A2Element.f k l1 bt537.1 bt537.2 1).bind fun t541 => ((laws_a2At.f l1 3 40).bind fun t542 => ((laws_a2At.f l1 4 40).bind fun t543 => ((impl_PowerIn.f k bt537.1 bt537.2 t540 t542).bind fun bt544 => ((impl_PowerIn.f k bt537.1 bt537.2 t540 t543).bind fun bt546 => ((impl_PowerIn.f k bt537.1 bt537.2 t540 (wrap64 (t542 + t543))).bind fun bt548 => (if bt544.2 = 0 then (if bt546.2 = 0 then (if bt548.2 = 0 then (if bt544.1 < 0 then (laws_FnPowers.j0 k (shl .i64 1 (IntKind.u64.wrap (bt537.1))) t540 t541 t543 bt544.1 bt546.1 bt548.1 true bt537.1 bt537.2) else (if bt544.1 ≥ (shl .i64 1 (IntKind.u64.wrap (bt537.1))) then (laws_FnPowers.j0 k (shl .i64 1 (IntKind.u64.wrap (bt537.1))) t540 t541 t543 bt544.1 bt546.1 bt548.1 true bt537.1 bt537.2) else (if bt546.1 < 0 then (laws_FnPowers.j0 k (shl .i64 1 (IntKind.u64.wrap (bt537.1))) t540 t541 t543 bt544.1 bt546.1 bt548.1 true bt537.1 bt537.2) else (laws_FnPowers.j0 k (shl .i64 1 (IntKind.u64.wrap (bt537.1))) t540 t541 t543 bt544.1 bt546.1 bt548.1 (decide (bt546.1 ≥ (shl .i64 1 (IntKind.u64.wrap (bt537.1))))) bt537.1 bt537.2)))) else (laws_FnPowers.j0 k (shl .i64 1 (IntKind.u64.wrap (bt537.1))) t540 t541 t543 bt544.1 bt546.1 bt548.1 true bt537.1 bt537.2)) else (laws_FnPowers.j0 k (shl .i64 1 (IntKind.u64.wrap (bt537.1))) t540 t541 t543 bt544.1 bt546.1 bt548.1 true bt537.1 bt537.2)) else (laws_FnPowers.j0 k (shl .i64 1 (IntKind.u64.wrap (bt537.1))) t540 t541 t543 bt544.1 bt546.1 bt548.1 true bt537.1 bt537.2))))))))) else (none))))
theorem laws_FnPowers.mono_l : ∀ k, (∀ y0 y1 y2 y3 y4 y5 y6 y7 y8 y9, LeO (laws_FnPowers.j0 k y0 y1 y2 y3 y4 y5 y6 y7 y8 y9) (laws_FnPowers.j0 (k + 1) y0 y1 y2 y3 y4 y5 y6 y7 y8 y9)) ∧ (∀ y0 y1 y2 y3 y4 y5 y6, LeO (laws_FnPowers.j1 k y0 y1 y2 y3 y4 y5 y6) (laws_FnPowers.j1 (k + 1) y0 y1 y2 y3 y4 y5 y6)) ∧ (∀ y0 y1 y2 y3 y4 y5, LeO (laws_FnPowers.j2 k y0 y1 y2 y3 y4 y5) (laws_FnPowers.j2 (k + 1) y0 y1 y2 y3 y4 y5)) ∧ (∀ y0 y1 y2 y3 y4 y5 y6 y7, LeO (laws_FnPowers.j3 k y0 y1 y2 y3 y4 y5 y6 y7) (laws_FnPowers.j3 (k + 1) y0 y1 y2 y3 y4 y5 y6 y7)) ∧ (∀ y0 y1 y2 y3 y4 y5 y6, LeO (laws_FnPowers.j4 k y0 y1 y2 y3 y4 y5 y6) (laws_FnPowers.j4 (k + 1) y0 y1 y2 y3 y4 y5 y6))
 | 0 => ⟨fun _ _ _ _ _ _ _ _ _ _ r h => by simp [laws_FnPowers.j0] at h, fun _ _ _ _ _ _ _ r h => by simp [laws_FnPowers.j1] at h, fun _ _ _ _ _ _ r h => by simp [laws_FnPowers.j2] at h, fun _ _ _ _ _ _ _ _ r h => by simp [laws_FnPowers.j3] at h, fun _ _ _ _ _ _ _ r h => by simp [laws_FnPowers.j4] at h⟩
 | k + 1 => by
  obtain ⟨ih0, ih1, ih2, ih3, ih4⟩ := laws_FnPowers.mono_l k
  refine ⟨?_, ?_, ?_, ?_, ?_⟩
  ·intro y0 y1 y2 y3 y4 y5 y6 y7 y8 y9
   unfold laws_FnPowers.j0
   repeat' first
   | (with_reducible first | exact ih0 _ _ _ _ _ _ _ _ _ _ | exact ih1 _ _ _ _ _ _ _ | exact ih2 _ _ _ _ _ _ | exact ih3 _ _ _ _ _ _ _ _ | exact ih4 _ _ _ _ _ _ _ | exact impl_FirstPrimitive.mono _ _ _ | exact impl_LogIn.mono _ _ _ _ _ | exact impl_MulIn.mono _ _ _ _ _ | exact impl_OrderIn.mono _ _ _ _ | exact impl_PowerIn.mono _ _ _ _ _ | exact impl_RootTimes.mono _ _ _ _ _ | exact impl_SquareTimes.mono _ _ _ _ _ | exact spec_A2Element.mono _ _ _ _ _ | exact spec_A2Field.mono _ _ | exact LeO.refl _ | exact LeO.none _ | refine LeO.ite ?_ ?_ | refine LeO.bind ?_ (fun _ => ?_))
   | exact LeO.none _
   | refine LeO.ite ?_ ?_
   | refine LeO.bind ?_ (fun _ => ?_)
  ·intro y0 y1 y2 y3 y4 y5 y6
   unfold laws_FnPowers.j1
   repeat' first
   | (with_reducible first | exact ih0 _ _ _ _ _ _ _ _ _ _ | exact ih1 _ _ _ _ _ _ _ | exact ih2 _ _ _ _ _ _ | exact ih3 _ _ _ _ _ _ _ _ | exact ih4 _ _ _ _ _ _ _ | exact impl_FirstPrimitive.mono _ _ _ | exact impl_LogIn.mono _ _ _ _ _ | exact impl_MulIn.mono _ _ _ _ _ | exact impl_OrderIn.mono _ _ _ _ | exact impl_PowerIn.mono _ _ _ _ _ | exact impl_RootTimes.mono _ _ _ _ _ | exact impl_SquareTimes.mono _ _ _ _ _ | exact spec_A2Element.mono _ _ _ _ _ | exact spec_A2Field.mono _ _ | exact LeO.refl _ | exact LeO.none _ | refine LeO.ite ?_ ?_ | refine LeO.bind ?_ (fun _ => ?_))
   | exact LeO.none _
   | refine LeO.ite ?_ ?_
   | refine LeO.bind ?_ (fun _ => ?_)
  ·intro y0 y1 y2 y3 y4 y5
   unfold laws_FnPowers.j2
   repeat' first
   | (with_reducible first | exact ih0 _ _ _ _ _ _ _ _ _ _ | exact ih1 _ _ _ _ _ _ _ | exact ih2 _ _ _ _ _ _ | exact ih3 _ _ _ _ _ _ _ _ | exact ih4 _ _ _ _ _ _ _ | exact impl_FirstPrimitive.mono _ _ _ | exact impl_LogIn.mono _ _ _ _ _ | exact impl_MulIn.mono _ _ _ _ _ | exact impl_OrderIn.mono _ _ _ _ | exact impl_PowerIn.mono _ _ _ _ _ | exact impl_RootTimes.mono _ _ _ _ _ | exact impl_SquareTimes.mono _ _ _ _ _ | exact spec_A2Element.mono _ _ _ _ _ | exact spec_A2Field.mono _ _ | exact LeO.refl _ | exact LeO.none _ | refine LeO.ite ?_ ?_ | refine LeO.bind ?_ (fun _ => ?_))
   | exact LeO.none _
   | refine LeO.ite ?_ ?_
   | refine LeO.bind ?_ (fun _ => ?_)
  ·intro y0 y1 y2 y3 y4 y5 y6 y7
   unfold laws_FnPowers.j3
   repeat' first
   | (with_reducible first | exact ih0 _ _ _ _ _ _ _ _ _ _ | exact ih1 _ _ _ _ _ _ _ | exact ih2 _ _ _ _ _ _ | exact ih3 _ _ _ _ _ _ _ _ | exact ih4 _ _ _ _ _ _ _ | exact impl_FirstPrimitive.mono _ _ _ | exact impl_LogIn.mono _ _ _ _ _ | exact impl_MulIn.mono _ _ _ _ _ | exact impl_OrderIn.mono _ _ _ _ | exact impl_PowerIn.mono _ _ _ _ _ | exact impl_RootTimes.mono _ _ _ _ _ | exact impl_SquareTimes.mono _ _ _ _ _ | exact spec_A2Element.mono _ _ _ _ _ | exact spec_A2Field.mono _ _ | exact LeO.refl _ | exact LeO.none _ | refine LeO.ite ?_ ?_ | refine LeO.bind ?_ (fun _ => ?_))
   | exact LeO.none _
   | refine LeO.ite ?_ ?_
   | refine LeO.bind ?_ (fun _ => ?_)
  ·intro y0 y1 y2 y3 y4 y5 y6
   unfold laws_FnPowers.j4
   repeat' first
   | (with_reducible first | exact ih0 _ _ _ _ _ _ _ _ _ _ | exact ih1 _ _ _ _ _ _ _ | exact ih2 _ _ _ _ _ _ | exact ih3 _ _ _ _ _ _ _ _ | exact ih4 _ _ _ _ _ _ _ | exact impl_FirstPrimitive.mono _ _ _ | exact impl_LogIn.mono _ _ _ _ _ | exact impl_MulIn.mono _ _ _ _ _ | exact impl_OrderIn.mono _ _ _ _ | exact impl_PowerIn.mono _ _ _ _ _ | exact impl_RootTimes.mono _ _ _ _ _ | exact impl_SquareTimes.mono _ _ _ _ _ | exact spec_A2Element.mono _ _ _ _ _ | exact spec_A2Field.mono _ _ | exact LeO.refl _ | exact LeO.none _ | refine LeO.ite ?_ ?_ | refine LeO.bind ?_ (fun _ => ?_))
   | exact LeO.none _
   | refine LeO.ite ?_ ?_
   | refine LeO.bind ?_ (fun _ => ?_)
theorem laws_FnPowers.mono : ∀ a0 a1 k, LeO (laws_FnPowers.f k a0 a1) (laws_FnPowers.f (k + 1) a0 a1) := by
 intro a0 a1 k
 obtain ⟨ih0, ih1, ih2, ih3, ih4⟩ := laws_FnPowers.mono_l k
 unfold laws_FnPowers.f
 repeat' first
  | (with_reducible first | exact ih0 _ _ _ _ _ _ _ _ _ _ | exact ih1 _ _ _ _ _ _ _ | exact ih2 _ _ _ _ _ _ | exact ih3 _ _ _ _ _ _ _ _ | exact ih4 _ _ _ _ _ _ _ | exact impl_FirstPrimitive.mono _ _ _ | exact impl_LogIn.mono _ _ _ _ _ | exact impl_MulIn.mono _ _ _ _ _ | exact impl_OrderIn.mono _ _ _ _ | exact impl_PowerIn.mono _ _ _ _ _ | exact impl_RootTimes.mono _ _ _ _ _ | exact impl_SquareTimes.mono _ _ _ _ _ | exact spec_A2Element.mono _ _ _ _ _ | exact spec_A2Field.mono _ _ | exact LeO.refl _ | exact LeO.none _ | refine LeO.ite ?_ ?_ | refine LeO.bind ?_ (fun _ => ?_))
  | exact LeO.none _
  | refine LeO.ite ?_ ?_
  | refine LeO.bind ?_ (fun _ => ?_)
structure laws_FnPowers.W (p : Prop) : Prop where mk :: (out : p)
set_option maxHeartbeats 8000000 in
set_option maxRecDepth 100000 in
noncomputable def laws_FnPowers.G0 : { G_ : Prop // laws_FnPowers.W G_ → ∀ (k : Nat) (A0 : Option Addr) (c0 : Nat) (l0 : List Int) (A1 : Option Addr) (c1 : Nat) (l1 : List Int) (r : Bool) (w : World) (hr0 : Kd.C (Kd.int .u8) w A0 l0.length l0) (hc0 : l0.length ≤ c0) (hr1 : Kd.C (Kd.int .u8) w A1 l1.length l1) (hc1 : l1.length ≤ c1) (h : laws_FnPowers.f k l0 l1 = some r), Calls Try.prog 4 #[.slice A0 l0.length c0, .slice A1 l1.length c1] w fun e w' => e = .returned (.bool r) ∧ Below w.heap.size w w' } := by
 constructor
 intro hG_
 intro k A0 c0 l0 A1 c1 l1 r w hr0 hc0 hr1 hc1 h
 have hu39 := Try.underlying39
 have HR0 := Aq.mk hr0
 have HC0 := Aq.mk hc0
 clear hr0 hc0
 have HR1 := Aq.mk hr1
 have HC1 := Aq.mk hc1
 clear hr1 hc1
 have HB := Aq.mk (Below.refl w.heap.size w)
 have H : ((laws_a2Long.f l0 l1).bind fun t536 => (if t536 = true then (some true) else ((spec_A2Field.f k l0).bind fun bt537 => (if 0 ≤ (IntKind.u64.wrap (bt537.1)) then ((spec_A2Element.f k l1 bt537.1 bt537.2 0).bind fun t540 => ((spec_A2Element.f k l1 bt537.1 bt537.2 1).bind fun t541 => ((laws_a2At.f l1 3 40).bind fun t542 => ((laws_a2At.f l1 4 40).bind fun t543 => ((impl_PowerIn.f k bt537.1 bt537.2 t540 t542).bind fun bt544 => ((impl_PowerIn.f k bt537.1 bt537.2 t540 t543).bind fun bt546 => ((impl_PowerIn.f k bt537.1 bt537.2 t540 (wrap64 (t542 + t543))).bind fun bt548 => (if bt544.2 = 0 then (if bt546.2 = 0 then (if bt548.2 = 0 then (if bt544.1 < 0 then (laws_FnPowers.j0 k (shl .i64 1 (IntKind.u64.wrap (bt537.1))) t540 t541 t543 bt544.1 bt546.1 bt548.1 true bt537.1 bt537.2) else (if bt544.1 ≥ (shl .i64 1 (IntKind.u64.wrap (bt537.1))) then (laws_FnPowers.j0 k (shl .i64 1 (IntKind.u64.wrap (bt537.1))) t540 t541 t543 bt544.1 bt546.1 bt548.1 true bt537.1 bt537.2) else (if bt546.1 < 0 then (laws_FnPowers.j0 k (shl .i64 1 (IntKind.u64.wrap (bt537.1))) t540 t541 t543 bt544.1 bt546.1 bt548.1 true bt537.1 bt537.2) else (laws_FnPowers.j0 k (shl .i64 1 (IntKind.u64.wrap (bt537.1))) t540 t541 t543 bt544.1 bt546.1 bt548.1 (decide (bt546.1 ≥ (shl .i64 1 (IntKind.u64.wrap (bt537.1))))) bt537.1 bt537.2)))) else (laws_FnPowers.j0 k (shl .i64 1 (IntKind.u64.wrap (bt537.1))) t540 t541 t543 bt544.1 bt546.1 bt548.1 true bt537.1 bt537.2)) else (laws_FnPowers.j0 k (shl .i64 1 (IntKind.u64.wrap (bt537.1))) t540 t541 t543 bt544.1 bt546.1 bt548.1 true bt537.1 bt537.2)) else (laws_FnPowers.j0 k (shl .i64 1 (IntKind.u64.wrap (bt537.1))) t540 t541 t543 bt544.1 bt546.1 bt548.1 true bt537.1 bt537.2))))))))) else (none))))) = some r := h
 clear h
 replace H := Option.bind_eq_some_iff.mp H
 obtain ⟨t536, A30, H⟩ := H
 replace H : (if t536 = true then (some true) else ((spec_A2Field.f k l0).bind fun bt537 => (if 0 ≤ (IntKind.u64.wrap (bt537.1)) then ((spec_A2Element.f k l1 bt537.1 bt537.2 0).bind fun t540 => ((spec_A2Element.f k l1 bt537.1 bt537.2 1).bind fun t541 => ((laws_a2At.f l1 3 40).bind fun t542 => ((laws_a2At.f l1 4 40).bind fun t543 => ((impl_PowerIn.f k bt537.1 bt537.2 t540 t542).bind fun bt544 => ((impl_PowerIn.f k bt537.1 bt537.2 t540 t543).bind fun bt546 => ((impl_PowerIn.f k bt537.1 bt537.2 t540 (wrap64 (t542 + t543))).bind fun bt548 => (if bt544.2 = 0 then (if bt546.2 = 0 then (if bt548.2 = 0 then (if bt544.1 < 0 then (laws_FnPowers.j0 k (shl .i64 1 (IntKind.u64.wrap (bt537.1))) t540 t541 t543 bt544.1 bt546.1 bt548.1 true bt537.1 bt537.2) else (if bt544.1 ≥ (shl .i64 1 (IntKind.u64.wrap (bt537.1))) then (laws_FnPowers.j0 k (shl .i64 1 (IntKind.u64.wrap (bt537.1))) t540 t541 t543 bt544.1 bt546.1 bt548.1 true bt537.1 bt537.2) else (if bt546.1 < 0 then (laws_FnPowers.j0 k (shl .i64 1 (IntKind.u64.wrap (bt537.1))) t540 t541 t543 bt544.1 bt546.1 bt548.1 true bt537.1 bt537.2) else (laws_FnPowers.j0 k (shl .i64 1 (IntKind.u64.wrap (bt537.1))) t540 t541 t543 bt544.1 bt546.1 bt548.1 (decide (bt546.1 ≥ (shl .i64 1 (IntKind.u64.wrap (bt537.1))))) bt537.1 bt537.2)))) else (laws_FnPowers.j0 k (shl .i64 1 (IntKind.u64.wrap (bt537.1))) t540 t541 t543 bt544.1 bt546.1 bt548.1 true bt537.1 bt537.2)) else (laws_FnPowers.j0 k (shl .i64 1 (IntKind.u64.wrap (bt537.1))) t540 t541 t543 bt544.1 bt546.1 bt548.1 true bt537.1 bt537.2)) else (laws_FnPowers.j0 k (shl .i64 1 (IntKind.u64.wrap (bt537.1))) t540 t541 t543 bt544.1 bt546.1 bt548.1 true bt537.1 bt537.2))))))))) else (none)))) = some r := H
 have A3 := Aq.mk A30
 clear A30
 by_cases c4 : t536 = true
 ·subst c4
  have H1 : (some true) = some r := by rw [if_pos rfl] at H; exact H
  clear H
  have H := H1
  clear H1
  obtain rfl := Option.some.inj H
  go_enter Try.func4, Try.ntmps4
  go_wp2_with (first | ((with_reducible refine gQc (f := 7) rfl ?_); refine goesL_ (some 43) rfl rfl Try.func7 (by kernel_rfl) rfl #[.slice A0 l0.length c0, .slice A1 l1.length c1] rfl (by (try simp only [List.map_toArray, List.map_cons, List.map_nil]); first | done | rfl | (simp only [List.length_drop, List.length_take]; rfl)) ?_; (with_reducible refine (laws_a2Long.calls _ _ l0 _ _ l1 true _ ?side1 ?side2 ?side3 ?side4 A3.out).mono ?_); (case side1 => repeat (first | exact HR0.out | (with_reducible refine Kd.CqA ?_ _) | (with_reducible refine Kd.CqN ?_ _) | (with_reducible refine Kd.CqD ?_))); (case side2 => exact HC0.out); (case side3 => repeat (first | exact HR1.out | (with_reducible refine Kd.CqA ?_ _) | (with_reducible refine Kd.CqN ?_ _) | (with_reducible refine Kd.CqD ?_))); (case side4 => exact HC1.out); rintro e w' ⟨rfl, ⟨nd, rfl⟩⟩; refine ⟨_, rfl, ?_⟩))
  go_ret
  exact ⟨by first | rfl | (simp [errW_none, errW_some] <;> rfl) | (simp [*, errW_none, errW_some] <;> rfl), by repeat (first | (with_reducible first | exact HB.out | apply bQA | apply bQN | apply bQ1) | exact HB.out)⟩
 ·replace c4 := Bool.eq_false_iff.mpr c4
  subst c4
  have H1 : ((spec_A2Field.f k l0).bind fun bt537 => (if 0 ≤ (IntKind.u64.wrap (bt537.1)) then ((spec_A2Element.f k l1 bt537.1 bt537.2 0).bind fun t540 => ((spec_A2Element.f k l1 bt537.1 bt537.2 1).bind fun t541 => ((laws_a2At.f l1 3 40).bind fun t542 => ((laws_a2At.f l1 4 40).bind fun t543 => ((impl_PowerIn.f k bt537.1 bt537.2 t540 t542).bind fun bt544 => ((impl_PowerIn.f k bt537.1 bt537.2 t540 t543).bind fun bt546 => ((impl_PowerIn.f k bt537.1 bt537.2 t540 (wrap64 (t542 + t543))).bind fun bt548 => (if bt544.2 = 0 then (if bt546.2 = 0 then (if bt548.2 = 0 then (if bt544.1 < 0 then (laws_FnPowers.j0 k (shl .i64 1 (IntKind.u64.wrap (bt537.1))) t540 t541 t543 bt544.1 bt546.1 bt548.1 true bt537.1 bt537.2) else (if bt544.1 ≥ (shl .i64 1 (IntKind.u64.wrap (bt537.1))) then (laws_FnPowers.j0 k (shl .i64 1 (IntKind.u64.wrap (bt537.1))) t540 t541 t543 bt544.1 bt546.1 bt548.1 true bt537.1 bt537.2) else (if bt546.1 < 0 then (laws_FnPowers.j0 k (shl .i64 1 (IntKind.u64.wrap (bt537.1))) t540 t541 t543 bt544.1 bt546.1 bt548.1 true bt537.1 bt537.2) else (laws_FnPowers.j0 k (shl .i64 1 (IntKind.u64.wrap (bt537.1))) t540 t541 t543 bt544.1 bt546.1 bt548.1 (decide (bt546.1 ≥ (shl .i64 1 (IntKind.u64.wrap (bt537.1))))) bt537.1 bt537.2)))) else (laws_FnPowers.j0 k (shl .i64 1 (IntKind.u64.wrap (bt537.1))) t540 t541 t543 bt544.1 bt546.1 bt548.1 true bt537.1 bt537.2)) else (laws_FnPowers.j0 k (shl .i64 1 (IntKind.u64.wrap (bt537.1))) t540 t541 t543 bt544.1 bt546.1 bt548.1 true bt537.1 bt537.2)) else (laws_FnPowers.j0 k (shl .i64 1 (IntKind.u64.wrap (bt537.1))) t540 t541 t543 bt544.1 bt546.1 bt548.1 true bt537.1 bt537.2))))))))) else (none))) = some r := by rw [if_neg (show ¬ (false = true) by decide)] at H; exact H
  clear H
  have H := H1
  clear H1
  replace H := Option.bind_eq_some_iff.mp H
  obtain ⟨⟨t537, t538⟩, A50, H⟩ := H
  replace H : (if 0 ≤ (IntKind.u64.wrap (t537)) then ((spec_A2Element.f k l1 t537 t538 0).bind fun t540 => ((spec_A2Element.f k l1 t537 t538 1).bind fun t541 => ((laws_a2At.f l1 3 40).bind fun t542 => ((laws_a2At.f l1 4 40).bind fun t543 => ((impl_PowerIn.f k t537 t538 t540 t542).bind fun bt544 => ((impl_PowerIn.f k t537 t538 t540 t543).bind fun bt546 => ((impl_PowerIn.f k t537 t538 t540 (wrap64 (t542 + t543))).bind fun bt548 => (if bt544.2 = 0 then (if bt546.2 = 0 then (if bt548.2 = 0 then (if bt544.1 < 0 then (laws_FnPowers.j0 k (shl .i64 1 (IntKind.u64.wrap (t537))) t540 t541 t543 bt544.1 bt546.1 bt548.1 true t537 t538) else (if bt544.1 ≥ (shl .i64 1 (IntKind.u64.wrap (t537))) then (laws_FnPowers.j0 k (shl .i64 1 (IntKind.u64.wrap (t537))) t540 t541 t543 bt544.1 bt546.1 bt548.1 true t537 t538) else (if bt546.1 < 0 then (laws_FnPowers.j0 k (shl .i64 1 (IntKind.u64.wrap (t537))) t540 t541 t543 bt544.1 bt546.1 bt548.1 true t537 t538) else (laws_FnPowers.j0 k (shl .i64 1 (IntKind.u64.wrap (t537))) t540 t541 t543 bt544.1 bt546.1 bt548.1 (decide (bt546.1 ≥ (shl .i64 1 (IntKind.u64.wrap (t537))))) t537 t538)))) else (laws_FnPowers.j0 k (shl .i64 1 (IntKind.u64.wrap (t537))) t540 t541 t543 bt544.1 bt546.1 bt548.1 true t537 t538)) else (laws_FnPowers.j0 k (shl .i64 1 (IntKind.u64.wrap (t537))) t540 t541 t543 bt544.1 bt546.1 bt548.1 true t537 t538)) else (laws_FnPowers.j0 k (shl .i64 1 (IntKind.u64.wrap (t537))) t540 t541 t543 bt544.1 bt546.1 bt548.1 true t537 t538))))))))) else (none)) = some r := H
  have A5 := Aq.mk A50
  clear A50
  obtain ⟨ji6, hji6⟩ : ∃ j_ : Int, (IntKind.u64.wrap (t537)) = j_ := ⟨_, rfl⟩
  replace H : (if 0 ≤ (ji6) then ((spec_A2Element.f k l1 t537 t538 0).bind fun t540 => ((spec_A2Element.f k l1 t537 t538 1).bind fun t541 => ((laws_a2At.f l1 3 40).bind fun t542 => ((laws_a2At.f l1 4 40).bind fun t543 => ((impl_PowerIn.f k t537 t538 t540 t542).bind fun bt544 => ((impl_PowerIn.f k t537 t538 t540 t543).bind fun bt546 => ((impl_PowerIn.f k t537 t538 t540 (wrap64 (t542 + t543))).bind fun bt548 => (if bt544.2 = 0 then (if bt546.2 = 0 then (if bt548.2 = 0 then (if bt544.1 < 0 then (laws_FnPowers.j0 k (shl .i64 1 (ji6)) t540 t541 t543 bt544.1 bt546.1 bt548.1 true t537 t538) else (if bt544.1 ≥ (shl .i64 1 (ji6)) then (laws_FnPowers.j0 k (shl .i64 1 (ji6)) t540 t541 t543 bt544.1 bt546.1 bt548.1 true t537 t538) else (if bt546.1 < 0 then (laws_FnPowers.j0 k (shl .i64 1 (ji6)) t540 t541 t543 bt544.1 bt546.1 bt548.1 true t537 t538) else (laws_FnPowers.j0 k (shl .i64 1 (ji6)) t540 t541 t543 bt544.1 bt546.1 bt548.1 (decide (bt546.1 ≥ (shl .i64 1 (ji6)))) t537 t538)))) else (laws_FnPowers.j0 k (shl .i64 1 (ji6)) t540 t541 t543 bt544.1 bt546.1 bt548.1 true t537 t538)) else (laws_FnPowers.j0 k (shl .i64 1 (ji6)) t540 t541 t543 bt544.1 bt546.1 bt548.1 true t537 t538)) else (laws_FnPowers.j0 k (shl .i64 1 (ji6)) t540 t541 t543 bt544.1 bt546.1 bt548.1 true t537 t538))))))))) else (none)) = some r := by first | (rw [hji6] at H; exact H) | (simp only [hji6] at H ⊢; exact H)
  (try rw [hji6] at A3)
  (try rw [hji6] at A5)
  by_cases c7 : 0 ≤ (ji6)
  ·rw [if_pos c7] at H
   have c7b0 := eq_true c7
   have c7b1 : decide (0 ≤ (ji6)) = true := decide_eq_true c7
   clear c7
   obtain ⟨ji8, hji8⟩ : ∃ j_ : Int, (shl .i64 1 (ji6)) = j_ := ⟨_, rfl⟩
   replace H : ((spec_A2Element.f k l1 t537 t538 0).bind fun t540 => ((spec_A2Element.f k l1 t537 t538 1).bind fun t541 => ((laws_a2At.f l1 3 40).bind fun t542 => ((laws_a2At.f l1 4 40).bind fun t543 => ((impl_PowerIn.f k t537 t538 t540 t542).bind fun bt544 => ((impl_PowerIn.f k t537 t538 t540 t543).bind fun bt546 => ((impl_PowerIn.f k t537 t538 t540 (wrap64 (t542 + t543))).bind fun bt548 => (if bt544.2 = 0 then (if bt546.2 = 0 then (if bt548.2 = 0 then (if bt544.1 < 0 then (laws_FnPowers.j0 k ji8 t540 t541 t543 bt544.1 bt546.1 bt548.1 true t537 t538) else (if bt544.1 ≥ (ji8) then (laws_FnPowers.j0 k ji8 t540 t541 t543 bt544.1 bt546.1 bt548.1 true t537 t538) else (if bt546.1 < 0 then (laws_FnPowers.j0 k ji8 t540 t541 t543 bt544.1 bt546.1 bt548.1 true t537 t538) else (laws_FnPowers.j0 k ji8 t540 t541 t543 bt544.1 bt546.1 bt548.1 (decide (bt546.1 ≥ (ji8))) t537 t538)))) else (laws_FnPowers.j0 k ji8 t540 t541 t543 bt544.1 bt546.1 bt548.1 true t537 t538)) else (laws_FnPowers.j0 k ji8 t540 t541 t543 bt544.1 bt546.1 bt548.1 true t537 t538)) else (laws_FnPowers.j0 k ji8 t540 t541 t543 bt544.1 bt546.1 bt548.1 true t537 t538))))))))) = some r := by first | (rw [hji8] at H; exact H) | (simp only [hji8] at H ⊢; exact H)
   (try rw [hji8] at A3)
   (try rw [hji8] at A5)
   have hji8_ : (IntKind.i64.wrap (1 * 2 ^ min (ji6).toNat 64)) = ji8 := hji8
   have hji8z : (ji6) ≤ 64 → (IntKind.i64.wrap (1 * 2 ^ (ji6).toNat)) = ji8 := shl_small hji8
   have hji8u : (IntKind.i64.wrap (2 ^ min (ji6).toNat 64)) = ji8 := by have h_ := hji8_; rw [Int.one_mul] at h_; exact h_
   have hji8v : (ji6) ≤ 64 → (IntKind.i64.wrap (2 ^ (ji6).toNat)) = ji8 := fun hle_ => by have h_ := hji8z hle_; rw [Int.one_mul] at h_; exact h_
   have hji8y : (wrap64 (1 * 2 ^ min (ji6).toNat 64)) = ji8 := (i64_w _).symm.trans hji8_
   have hji8x : (ji6) ≤ 64 → (wrap64 (1 * 2 ^ (ji6).toNat)) = ji8 := fun h_ => (i64_w _).symm.trans (hji8z h_)
   replace H := Option.bind_eq_some_iff.mp H
   obtain ⟨t540, A90, H⟩ := H
   replace H : ((spec_A2Element.f k l1 t537 t538 1).bind fun t541 => ((laws_a2At.f l1 3 40).bind fun t542 => ((laws_a2At.f l1 4 40).bind fun t543 => ((impl_PowerIn.f k t537 t538 t540 t542).bind fun bt544 => ((impl_PowerIn.f k t537 t538 t540 t543).bind fun bt546 => ((impl_PowerIn.f k t537 t538 t540 (wrap64 (t542 + t543))).bind fun bt548 => (if bt544.2 = 0 then (if bt546.2 = 0 then (if bt548.2 = 0 then (if bt544.1 < 0 then (laws_FnPowers.j0 k ji8 t540 t541 t543 bt544.1 bt546.1 bt548.1 true t537 t538) else (if bt544.1 ≥ (ji8) then (laws_FnPowers.j0 k ji8 t540 t541 t543 bt544.1 bt546.1 bt548.1 true t537 t538) else (if bt546.1 < 0 then (laws_FnPowers.j0 k ji8 t540 t541 t543 bt544.1 bt546.1 bt548.1 true t537 t538) else (laws_FnPowers.j0 k ji8 t540 t541 t543 bt544.1 bt546.1 bt548.1 (decide (bt546.1 ≥ (ji8))) t537 t538)))) else (laws_FnPowers.j0 k ji8 t540 t541 t543 bt544.1 bt546.1 bt548.1 true t537 t538)) else (laws_FnPowers.j0 k ji8 t540 t541 t543 bt544.1 bt546.1 bt548.1 true t537 t538)) else (laws_FnPowers.j0 k ji8 t540 t541 t543 bt544.1 bt546.1 bt548.1 true t537 t538)))))))) = some r := H
   have A9 := Aq.mk A90
   clear A90
   replace H := Option.bind_eq_some_iff.mp H
   obtain ⟨t541, A100, H⟩ := H
   replace H : ((laws_a2At.f l1 3 40).bind fun t542 => ((laws_a2At.f l1 4 40).bind fun t543 => ((impl_PowerIn.f k t537 t538 t540 t542).bind fun bt544 => ((impl_PowerIn.f k t537 t538 t540 t543).bind fun bt546 => ((impl_PowerIn.f k t537 t538 t540 (wrap64 (t542 + t543))).bind fun bt548 => (if bt544.2 = 0 then (if bt546.2 = 0 then (if bt548.2 = 0 then (if bt544.1 < 0 then (laws_FnPowers.j0 k ji8 t540 t541 t543 bt544.1 bt546.1 bt548.1 true t537 t538) else (if bt544.1 ≥ (ji8) then (laws_FnPowers.j0 k ji8 t540 t541 t543 bt544.1 bt546.1 bt548.1 true t537 t538) else (if bt546.1 < 0 then (laws_FnPowers.j0 k ji8 t540 t541 t543 bt544.1 bt546.1 bt548.1 true t537 t538) else (laws_FnPowers.j0 k ji8 t540 t541 t543 bt544.1 bt546.1 bt548.1 (decide (bt546.1 ≥ (ji8))) t537 t538)))) else (laws_FnPowers.j0 k ji8 t540 t541 t543 bt544.1 bt546.1 bt548.1 true t537 t538)) else (laws_FnPowers.j0 k ji8 t540 t541 t543 bt544.1 bt546.1 bt548.1 true t537 t538)) else (laws_FnPowers.j0 k ji8 t540 t541 t543 bt544.1 bt546.1 bt548.1 true t537 t538))))))) = some r := H
   have A10 := Aq.mk A100
   clear A100
   replace H := Option.bind_eq_some_iff.mp H
   obtain ⟨t542, A110, H⟩ := H
   replace H : ((laws_a2At.f l1 4 40).bind fun t543 => ((impl_PowerIn.f k t537 t538 t540 t542).bind fun bt544 => ((impl_PowerIn.f k t537 t538 t540 t543).bind fun bt546 => ((impl_PowerIn.f k t537 t538 t540 (wrap64 (t542 + t543))).bind fun bt548 => (if bt544.2 = 0 then (if bt546.2 = 0 then (if bt548.2 = 0 then (if bt544.1 < 0 then (laws_FnPowers.j0 k ji8 t540 t541 t543 bt544.1 bt546.1 bt548.1 true t537 t538) else (if bt544.1 ≥ (ji8) then (laws_FnPowers.j0 k ji8 t540 t541 t543 bt544.1 bt546.1 bt548.1 true t537 t538) else (if bt546.1 < 0 then (laws_FnPowers.j0 k ji8 t540 t541 t543 bt544.1 bt546.1 bt548.1 true t537 t538) else (laws_FnPowers.j0 k ji8 t540 t541 t543 bt544.1 bt546.1 bt548.1 (decide (bt546.1 ≥ (ji8))) t537 t538)))) else (laws_FnPowers.j0 k ji8 t540 t541 t543 bt544.1 bt546.1 bt548.1 true t537 t538)) else (laws_FnPowers.j0 k ji8 t540 t541 t543 bt544.1 bt546.1 bt548.1 true t537 t538)) else (laws_FnPowers.j0 k ji8 t540 t541 t543 bt544.1 bt546.1 bt548.1 true t537 t538)))))) = some r := H
   have A11 := Aq.mk A110
   clear A110
   replace H := Option.bind_eq_some_iff.mp H
   obtain ⟨t543, A120, H⟩ := H
   replace H : ((impl_PowerIn.f k t537 t538 t540 t542).bind fun bt544 => ((impl_PowerIn.f k t537 t538 t540 t543).bind fun bt546 => ((impl_PowerIn.f k t537 t538 t540 (wrap64 (t542 + t543))).bind fun bt548 => (if bt544.2 = 0 then (if bt546.2 = 0 then (if bt548.2 = 0 then (if bt544.1 < 0 then (laws_FnPowers.j0 k ji8 t540 t541 t543 bt544.1 bt546.1 bt548.1 true t537 t538) else (if bt544.1 ≥ (ji8) then (laws_FnPowers.j0 k ji8 t540 t541 t543 bt544.1 bt546.1 bt548.1 true t537 t538) else (if bt546.1 < 0 then (laws_FnPowers.j0 k ji8 t540 t541 t543 bt544.1 bt546.1 bt548.1 true t537 t538) else (laws_FnPowers.j0 k ji8 t540 t541 t543 bt544.1 bt546.1 bt548.1 (decide (bt546.1 ≥ (ji8))) t537 t538)))) else (laws_FnPowers.j0 k ji8 t540 t541 t543 bt544.1 bt546.1 bt548.1 true t537 t538)) else (laws_FnPowers.j0 k ji8 t540 t541 t543 bt544.1 bt546.1 bt548.1 true t537 t538)) else (laws_FnPowers.j0 k ji8 t540 t541 t543 bt544.1 bt546.1 bt548.1 true t537 t538))))) = some r := H
   have A12 := Aq.mk A120
   clear A120
   replace H := Option.bind_eq_some_iff.mp H
   obtain ⟨⟨t544, t545⟩, A130, H⟩ := H
   replace H : ((impl_PowerIn.f k t537 t538 t540 t543).bind fun bt546 => ((impl_PowerIn.f k t537 t538 t540 (wrap64 (t542 + t543))).bind fun bt548 => (if t545 = 0 then (if bt546.2 = 0 then (if bt548.2 = 0 then (if t544 < 0 then (laws_FnPowers.j0 k ji8 t540 t541 t543 t544 bt546.1 bt548.1 true t537 t538) else (if t544 ≥ (ji8) then (laws_FnPowers.j0 k ji8 t540 t541 t543 t544 bt546.1 bt548.1 true t537 t538) else (if bt546.1 < 0 then (laws_FnPowers.j0 k ji8 t540 t541 t543 t544 bt546.1 bt548.1 true t537 t538) else (laws_FnPowers.j0 k ji8 t540 t541 t543 t544 bt546.1 bt548.1 (decide (bt546.1 ≥ (ji8))) t537 t538)))) else (laws_FnPowers.j0 k ji8 t540 t541 t543 t544 bt546.1 bt548.1 true t537 t538)) else (laws_FnPowers.j0 k ji8 t540 t541 t543 t544 bt546.1 bt548.1 true t537 t538)) else (laws_FnPowers.j0 k ji8 t540 t541 t543 t544 bt546.1 bt548.1 true t537 t538)))) = some r := H
   have A13 := Aq.mk A130
   clear A130
   replace H := Option.bind_eq_some_iff.mp H
   obtain ⟨⟨t546, t547⟩, A140, H⟩ := H
   replace H : ((impl_PowerIn.f k t537 t538 t540 (wrap64 (t542 + t543))).bind fun bt548 => (if t545 = 0 then (if t547 = 0 then (if bt548.2 = 0 then (if t544 < 0 then (laws_FnPowers.j0 k ji8 t540 t541 t543 t544 t546 bt548.1 true t537 t538) else (if t544 ≥ (ji8) then (laws_FnPowers.j0 k ji8 t540 t541 t543 t544 t546 bt548.1 true t537 t538) else (if t546 < 0 then (laws_FnPowers.j0 k ji8 t540 t541 t543 t544 t546 bt548.1 true t537 t538) else (laws_FnPowers.j0 k ji8 t540 t541 t543 t544 t546 bt548.1 (decide (t546 ≥ (ji8))) t537 t538)))) else (laws_FnPowers.j0 k ji8 t540 t541 t543 t544 t546 bt548.1 true t537 t538)) else (laws_FnPowers.j0 k ji8 t540 t541 t543 t544 t546 bt548.1 true t537 t538)) else (laws_FnPowers.j0 k ji8 t540 t541 t543 t544 t546 bt548.1 true t537 t538))) = some r := H
   have A14 := Aq.mk A140
   clear A140
   replace H := Option.bind_eq_some_iff.mp H
   obtain ⟨⟨t548, t549⟩, A150, H⟩ := H
   replace H : (if t545 = 0 then (if t547 = 0 then (if t549 = 0 then (if t544 < 0 then (laws_FnPowers.j0 k ji8 t540 t541 t543 t544 t546 t548 true t537 t538) else (if t544 ≥ (ji8) then (laws_FnPowers.j0 k ji8 t540 t541 t543 t544 t546 t548 true t537 t538) else (if t546 < 0 then (laws_FnPowers.j0 k ji8 t540 t541 t543 t544 t546 t548 true t537 t538) else (laws_FnPowers.j0 k ji8 t540 t541 t543 t544 t546 t548 (decide (t546 ≥ (ji8))) t537 t538)))) else (laws_FnPowers.j0 k ji8 t540 t541 t543 t544 t546 t548 true t537 t538)) else (laws_FnPowers.j0 k ji8 t540 t541 t543 t544 t546 t548 true t537 t538)) else (laws_FnPowers.j0 k ji8 t540 t541 t543 t544 t546 t548 true t537 t538)) = some r := H
   have A15 := Aq.mk A150
   clear A150
   have HC16 := Aq.mk H
   clear H
   go_enter Try.func4, Try.ntmps4
   go_upto_region 12 with (first | ((with_reducible refine gQc (f := 7) rfl ?_); refine goesL_ (some 43) rfl rfl Try.func7 (by kernel_rfl) rfl #[.slice A0 l0.length c0, .slice A1 l1.length c1] rfl (by (try simp only [List.map_toArray, List.map_cons, List.map_nil]); first | done | rfl | (simp only [List.length_drop, List.length_take]; rfl)) ?_; (with_reducible refine (laws_a2Long.calls _ _ l0 _ _ l1 false _ ?side1 ?side2 ?side3 ?side4 A3.out).mono ?_); (case side1 => repeat (first | exact HR0.out | (with_reducible refine Kd.CqA ?_ _) | (with_reducible refine Kd.CqN ?_ _) | (with_reducible refine Kd.CqD ?_))); (case side2 => exact HC0.out); (case side3 => repeat (first | exact HR1.out | (with_reducible refine Kd.CqA ?_ _) | (with_reducible refine Kd.CqN ?_ _) | (with_reducible refine Kd.CqD ?_))); (case side4 => exact HC1.out); rintro e w' ⟨rfl, ⟨nd, rfl⟩⟩; refine ⟨_, rfl, ?_⟩) | ((with_reducible refine gQc (f := 20) rfl ?_); refine goesL_ (some 45) rfl rfl Try.func20 (by kernel_rfl) rfl #[.slice A0 l0.length c0] rfl (by (try simp only [List.map_toArray, List.map_cons, List.map_nil]); first | done | rfl | (simp only [List.length_drop, List.length_take]; rfl)) ?_; (with_reducible refine (spec_A2Field.calls k _ _ l0 t537 t538 _ ?side1 ?side2 A5.out).mono ?_); (case side1 => repeat (first | exact HR0.out | (with_reducible refine Kd.CqA ?_ _) | (with_reducible refine Kd.CqN ?_ _) | (with_reducible refine Kd.CqD ?_))); (case side2 => exact HC0.out); rintro e w17 ⟨rfl, hb⟩; refine ⟨_, rfl, ?_⟩; have n0_ := Aq.mk (bQT (by repeat (first | (with_reducible first | exact HB.out | apply bQA | apply bQN | apply bQ1) | exact HB.out)) hb); clear HB; have HB := n0_; clear n0_; (try clear hb); (try clear hb2); (try clear hk); (try clear hi)) | ((with_reducible refine gQd (N := 5) rfl ?_); refine xQe ?hg (N := 5) ?hd (cs := #[.int .i64 0, .int .i64 0]) (t := 39) ?hr ?_; (case hd => rfl); (case hg => rfl); (case hr => first | (go_simp; done) | (go_simp; rfl)); intro gb539 hg w18 hbox hb; have n0_ := Aq.mk (bQT (by repeat (first | (with_reducible first | exact HB.out | apply bQA | apply bQN | apply bQ1) | exact HB.out)) hb); have n1_ := Aq.mk (hbox); have n2_ := Aq.mk ((by rw [hg]; exact (bQZ (by repeat (first | (with_reducible first | exact HB.out | apply bQA | apply bQN | apply bQ1) | exact HB.out))) : w.heap.size ≤ gb539)); have n3_ := Aq.mk ((by rw [hg]; exact (bQZ (by repeat (first | (with_reducible first | exact HB.out | apply bQA | apply bQN | apply bQ1) | exact HB.out))) : w.heap.size ≤ gb539)); clear HB; have HB := n0_; have BK539 := n1_; have GW539 := n2_; have GE539 := n3_; clear n0_ n1_ n2_ n3_; clear hb hbox hg; have hcz19_0 : w18.cell? ⟨gb539, 0, none⟩ = some (.int .i64 0) := (kQC BK539.out 0).trans rfl; have hcz19_1 : w18.cell? ⟨gb539, 1, none⟩ = some (.int .i64 0) := (kQC BK539.out 1).trans rfl; have hfz19_0 := kQF BK539.out 0; have hfz19_1 := kQF BK539.out 1) | ((with_reducible refine gQc (f := 21) rfl ?_); refine goesL_ (some 52) rfl rfl Try.func21 (by kernel_rfl) rfl #[.slice A1 l1.length c1, .agg #[.int .i64 t537, .int .i64 t538], .int .i64 0] rfl (by (try simp only [List.map_toArray, List.map_cons, List.map_nil]); first | done | rfl | (simp only [List.length_drop, List.length_take]; rfl)) ?_; (with_reducible refine (spec_A2Element.calls k _ _ l1 t537 t538 0 t540 _ ?side1 ?side2 A9.out).mono ?_); (case side1 => exact Kd.C_below HR1.out (by repeat (first | (with_reducible first | exact HB.out | apply bQA | apply bQN | apply bQ1 | refine bQS ?_ GE539.out) | exact HB.out))); (case side2 => exact HC1.out); rintro e w20 ⟨rfl, hb⟩; refine ⟨_, rfl, ?_⟩; have n0_ := Aq.mk (kQB (g := gb539) (o := .cells #[.int .i64 t537, .int .i64 t538] 39 (0, 0)) (by (with_reducible repeat (first | refine kQN ?_ _ | refine kQD ?_ | refine kQA ?_ _)); refine kQP (cs := #[.int .i64 t537, .int .i64 0]) ?_ 1 _ rfl; (with_reducible repeat (first | refine kQN ?_ _ | refine kQD ?_ | refine kQA ?_ _)); refine kQP (cs := #[.int .i64 0, .int .i64 0]) ?_ 0 _ rfl; (with_reducible repeat (first | refine kQN ?_ _ | refine kQD ?_ | refine kQA ?_ _)); exact BK539.out) hb); have n1_ := Aq.mk (bQT (by repeat (first | (with_reducible first | exact HB.out | apply bQA | apply bQN | apply bQ1 | refine bQS ?_ GE539.out) | exact HB.out)) hb); clear BK539; clear HB; have BK539 := n0_; have HB := n1_; clear n0_ n1_; (try clear hb); (try clear hb2); (try clear hk); (try clear hi); have hcz21_0 : w20.cell? ⟨gb539, 0, none⟩ = some (.int .i64 t537) := (kQC BK539.out 0).trans rfl; have hcz21_1 : w20.cell? ⟨gb539, 1, none⟩ = some (.int .i64 t538) := (kQC BK539.out 1).trans rfl; have hfz21_0 := kQF BK539.out 0; have hfz21_1 := kQF BK539.out 1) | ((with_reducible refine gQc (f := 21) rfl ?_); refine goesL_ (some 55) rfl rfl Try.func21 (by kernel_rfl) rfl #[.slice A1 l1.length c1, .agg #[.int .i64 t537, .int .i64 t538], .int .i64 1] rfl (by (try simp only [List.map_toArray, List.map_cons, List.map_nil]); first | done | rfl | (simp only [List.length_drop, List.length_take]; rfl)) ?_; (with_reducible refine (spec_A2Element.calls k _ _ l1 t537 t538 1 t541 _ ?side1 ?side2 A10.out).mono ?_); (case side1 => repeat (first | exact (Kd.C_below HR1.out HB.out) | (with_reducible refine Kd.CqA ?_ _) | (with_reducible refine Kd.CqN ?_ _) | (with_reducible refine Kd.CqD ?_))); (case side2 => exact HC1.out); rintro e w22 ⟨rfl, hb⟩; refine ⟨_, rfl, ?_⟩; have n0_ := Aq.mk (kQB (g := gb539) (o := .cells #[.int .i64 t537, .int .i64 t538] 39 (0, 0)) (by (with_reducible repeat (first | refine kQN ?_ _ | refine kQD ?_ | refine kQA ?_ _)); exact BK539.out) hb); have n1_ := Aq.mk (bQT (by repeat (first | (with_reducible first | exact HB.out | apply bQA | apply bQN | apply bQ1 | refine bQS ?_ GE539.out) | exact HB.out)) hb); clear BK539; clear HB; have BK539 := n0_; have HB := n1_; clear n0_ n1_; (try clear hb); (try clear hb2); (try clear hk); (try clear hi)) | ((with_reducible refine gQc (f := 8) rfl ?_); refine goesL_ (some 57) rfl rfl Try.func8 (by kernel_rfl) rfl #[.slice A1 l1.length c1, .int .i64 3, .int .i64 40] rfl (by (try simp only [List.map_toArray, List.map_cons, List.map_nil]); first | done | rfl | (simp only [List.length_drop, List.length_take]; rfl)) ?_; (with_reducible refine (laws_a2At.calls _ _ l1 3 40 t542 _ ?side1 ?side2 A11.out).mono ?_); (case side1 => repeat (first | exact (Kd.C_below HR1.out HB.out) | (with_reducible refine Kd.CqA ?_ _) | (with_reducible refine Kd.CqN ?_ _) | (with_reducible refine Kd.CqD ?_))); (case side2 => exact HC1.out); rintro e w' ⟨rfl, ⟨nd, rfl⟩⟩; refine ⟨_, rfl, ?_⟩) | ((with_reducible refine gQc (f := 8) rfl ?_); refine goesL_ (some 59) rfl rfl Try.func8 (by kernel_rfl) rfl #[.slice A1 l1.length c1, .int .i64 4, .int .i64 40] rfl (by (try simp only [List.map_toArray, List.map_cons, List.map_nil]); first | done | rfl | (simp only [List.length_drop, List.length_take]; rfl)) ?_; (with_reducible refine (laws_a2At.calls _ _ l1 4 40 t543 _ ?side1 ?side2 A12.out).mono ?_); (case side1 => repeat (first | exact (Kd.C_below HR1.out (by repeat (first | (with_reducible first | exact HB.out | apply bQA | apply bQN | apply bQ1 | refine bQS ?_ GE539.out) | exact HB.out))) | (with_reducible refine Kd.CqA ?_ _) | (with_reducible refine Kd.CqN ?_ _) | (with_reducible refine Kd.CqD ?_))); (case side2 => exact HC1.out); rintro e w' ⟨rfl, ⟨nd, rfl⟩⟩; refine ⟨_, rfl, ?_⟩; have hcz23_0 : w22.cell? ⟨gb539, 0, none⟩ = some (.int .i64 t537) := (kQC BK539.out 0).trans rfl; have hcz23_1 : w22.cell? ⟨gb539, 1, none⟩ = some (.int .i64 t538) := (kQC BK539.out 1).trans rfl; have hfz23_0 := kQF BK539.out 0; have hfz23_1 := kQF BK539.out 1) | ((with_reducible refine gQc (f := 22) rfl ?_); refine goesL_ (some 64) rfl rfl Try.func22 (by kernel_rfl) rfl #[.agg #[.int .i64 t537, .int .i64 t538], .int .i64 t540, .int .i64 t542] rfl (by (try simp only [List.map_toArray, List.map_cons, List.map_nil]); first | done | rfl | (simp only [List.length_drop, List.length_take]; rfl)) ?_; (with_reducible refine (impl_PowerIn.calls k t537 t538 t540 t542 t544 t545 _ A13.out).mono ?_); rintro e w24 ⟨rfl, hb⟩; refine ⟨_, rfl, ?_⟩; have n0_ := Aq.mk (kQB (g := gb539) (o := .cells #[.int .i64 t537, .int .i64 t538] 39 (0, 0)) (by (with_reducible repeat (first | refine kQN ?_ _ | refine kQD ?_ | refine kQA ?_ _)); exact BK539.out) hb); have n1_ := Aq.mk (bQT (by repeat (first | (with_reducible first | exact HB.out | apply bQA | apply bQN | apply bQ1 | refine bQS ?_ GE539.out) | exact HB.out)) hb); clear BK539; clear HB; have BK539 := n0_; have HB := n1_; clear n0_ n1_; (try clear hb); (try clear hb2); (try clear hk); (try clear hi); have hcz25_0 : w24.cell? ⟨gb539, 0, none⟩ = some (.int .i64 t537) := (kQC BK539.out 0).trans rfl; have hcz25_1 : w24.cell? ⟨gb539, 1, none⟩ = some (.int .i64 t538) := (kQC BK539.out 1).trans rfl; have hfz25_0 := kQF BK539.out 0; have hfz25_1 := kQF BK539.out 1) | ((with_reducible refine gQc (f := 22) rfl ?_); refine goesL_ (some 71) rfl rfl Try.func22 (by kernel_rfl) rfl #[.agg #[.int .i64 t537, .int .i64 t538], .int .i64 t540, .int .i64 t543] rfl (by (try simp only [List.map_toArray, List.map_cons, List.map_nil]); first | done | rfl | (simp only [List.length_drop, List.length_take]; rfl)) ?_; (with_reducible refine (impl_PowerIn.calls k t537 t538 t540 t543 t546 t547 _ A14.out).mono ?_); rintro e w26 ⟨rfl, hb⟩; refine ⟨_, rfl, ?_⟩; have n0_ := Aq.mk (kQB (g := gb539) (o := .cells #[.int .i64 t537, .int .i64 t538] 39 (0, 0)) (by (with_reducible repeat (first | refine kQN ?_ _ | refine kQD ?_ | refine kQA ?_ _)); exact BK539.out) hb); have n1_ := Aq.mk (bQT (by repeat (first | (with_reducible first | exact HB.out | apply bQA | apply bQN | apply bQ1 | refine bQS ?_ GE539.out) | exact HB.out)) hb); clear BK539; clear HB; have BK539 := n0_; have HB := n1_; clear n0_ n1_; (try clear hb); (try clear hb2); (try clear hk); (try clear hi); have hcz27_0 : w26.cell? ⟨gb539, 0, none⟩ = some (.int .i64 t537) := (kQC BK539.out 0).trans rfl; have hcz27_1 : w26.cell? ⟨gb539, 1, none⟩ = some (.int .i64 t538) := (kQC BK539.out 1).trans rfl; have hfz27_0 := kQF BK539.out 0; have hfz27_1 := kQF BK539.out 1) | ((with_reducible refine gQc (f := 22) rfl ?_); refine goesL_ (some 80) rfl rfl Try.func22 (by kernel_rfl) rfl #[.agg #[.int .i64 t537, .int .i64 t538], .int .i64 t540, .int .i64 (wrap64 (t542 + t543))] rfl (by (try simp only [List.map_toArray, List.map_cons, List.map_nil]); first | done | rfl | (simp only [List.length_drop, List.length_take]; rfl)) ?_; (with_reducible refine (impl_PowerIn.calls k t537 t538 t540 (wrap64 (t542 + t543)) t548 t549 _ A15.out).mono ?_); rintro e w28 ⟨rfl, hb⟩; refine ⟨_, rfl, ?_⟩; have n0_ := Aq.mk (kQB (g := gb539) (o := .cells #[.int .i64 t537, .int .i64 t538] 39 (0, 0)) (by (with_reducible repeat (first | refine kQN ?_ _ | refine kQD ?_ | refine kQA ?_ _)); exact BK539.out) hb); have n1_ := Aq.mk (bQT (by repeat (first | (with_reducible first | exact HB.out | apply bQA | apply bQN | apply bQ1 | refine bQS ?_ GE539.out) | exact HB.out)) hb); clear BK539; clear HB; have BK539 := n0_; have HB := n1_; clear n0_ n1_; (try clear hb); (try clear hb2); (try clear hk); (try clear hi)))
   (try simp only [Act.put, qSa, qSb, qSc])
   go_cut [110] (fun v110 wc => ∃ (kq : Nat) (x110_15 : Bool), v110 = .bool x110_15 ∧ Aq (laws_FnPowers.j0 kq ji8 t540 t541 t543 t544 t546 t548 x110_15 t537 t538 = some r) ∧ Aq (kq ≤ k) ∧ Aq (wc.heap[gb539]? = some (.cells #[.int .i64 t537, .int .i64 t538] 39 (0, 0))) ∧ Aq (Below w.heap.size w wc))
   case first =>
    have H := HC16.out
    clear HC16
    by_cases c29 : t545 = 0
    ·rw [if_pos c29] at H
     have c29b0 : (t545 == 0) = true := beq_iff_eq.mpr c29
     have c29b1 : (t545 != 0) = false := bne_eq_false_iff_eq.mpr c29
     clear c29
     (first | rw [c29b0] | (simp only [i64_w, i32_w]; rw [c29b0]) | skip)
     by_cases c30 : t547 = 0
     ·rw [if_pos c30] at H
      have c30b0 : (t547 == 0) = true := beq_iff_eq.mpr c30
      have c30b1 : (t547 != 0) = false := bne_eq_false_iff_eq.mpr c30
      clear c30
      by_cases c31 : t549 = 0
      ·rw [if_pos c31] at H
       have c31b0 : (t549 == 0) = true := beq_iff_eq.mpr c31
       have c31b1 : (t549 != 0) = false := bne_eq_false_iff_eq.mpr c31
       clear c31
       by_cases c32 : t544 < 0
       ·rw [if_pos c32] at H
        have c32b0 : decide (t544 < 0) = true := decide_eq_true c32
        clear c32
        have H' := Aq.mk H
        clear H
        go_wp2
        go_meet
        case rel => exact ⟨_, (true), (by first | rfl | (simp; done) | (simp [*]; done)), H', ⟨by first | omega | exact Nat.le_refl _⟩, ⟨by (with_reducible repeat (first | refine kQN ?_ _ | refine kQD ?_ | refine kQA ?_ _)); exact BK539.out⟩, ⟨by repeat (first | (with_reducible first | exact HB.out | apply bQA | apply bQN | apply bQ1 | refine bQS ?_ GE539.out) | exact HB.out)⟩⟩
       ·rw [if_neg c32] at H
        have c32b0 : decide (t544 < 0) = false := decide_eq_false c32
        clear c32
        by_cases c33 : t544 ≥ (ji8)
        ·rw [if_pos c33] at H
         have c33b0 : decide ((ji8) ≤ t544) = true := decide_eq_true c33
         clear c33
         have H' := Aq.mk H
         clear H
         go_wp2
         go_meet
         case rel => exact ⟨_, (true), (by first | rfl | (simp; done) | (simp [*]; done)), H', ⟨by first | omega | exact Nat.le_refl _⟩, ⟨by (with_reducible repeat (first | refine kQN ?_ _ | refine kQD ?_ | refine kQA ?_ _)); exact BK539.out⟩, ⟨by repeat (first | (with_reducible first | exact HB.out | apply bQA | apply bQN | apply bQ1 | refine bQS ?_ GE539.out) | exact HB.out)⟩⟩
        ·rw [if_neg c33] at H
         have c33b0 : decide ((ji8) ≤ t544) = false := decide_eq_false c33
         clear c33
         by_cases c34 : t546 < 0
         ·rw [if_pos c34] at H
          have c34b0 : decide (t546 < 0) = true := decide_eq_true c34
          clear c34
          have H' := Aq.mk H
          clear H
          go_wp2
          go_meet
          case rel => exact ⟨_, (true), (by first | rfl | (simp; done) | (simp [*]; done)), H', ⟨by first | omega | exact Nat.le_refl _⟩, ⟨by (with_reducible repeat (first | refine kQN ?_ _ | refine kQD ?_ | refine kQA ?_ _)); exact BK539.out⟩, ⟨by repeat (first | (with_reducible first | exact HB.out | apply bQA | apply bQN | apply bQ1 | refine bQS ?_ GE539.out) | exact HB.out)⟩⟩
         ·rw [if_neg c34] at H
          have c34b0 : decide (t546 < 0) = false := decide_eq_false c34
          clear c34
          have H' := Aq.mk H
          clear H
          go_wp2
          go_meet
          case rel => exact ⟨_, (decide (t546 ≥ (ji8))), (by first | rfl | (simp; done) | (simp only [← hji8] <;> (first | rfl | simp)) | (simp [*]; done)), H', ⟨by first | omega | exact Nat.le_refl _⟩, ⟨by (with_reducible repeat (first | refine kQN ?_ _ | refine kQD ?_ | refine kQA ?_ _)); exact BK539.out⟩, ⟨by repeat (first | (with_reducible first | exact HB.out | apply bQA | apply bQN | apply bQ1 | refine bQS ?_ GE539.out) | exact HB.out)⟩⟩
      ·rw [if_neg c31] at H
       have c31b0 : (t549 == 0) = false := beq_eq_false_iff_ne.mpr c31
       have c31b1 : (t549 != 0) = true := bne_iff_ne.mpr c31
       have H' := Aq.mk H
       clear H
       go_wp2
       go_meet
       case rel => exact ⟨_, (true), (by first | rfl | (simp; done) | (simp [*]; done)), H', ⟨by first | omega | exact Nat.le_refl _⟩, ⟨by (with_reducible repeat (first | refine kQN ?_ _ | refine kQD ?_ | refine kQA ?_ _)); exact BK539.out⟩, ⟨by repeat (first | (with_reducible first | exact HB.out | apply bQA | apply bQN | apply bQ1 | refine bQS ?_ GE539.out) | exact HB.out)⟩⟩
     ·rw [if_neg c30] at H
      have c30b0 : (t547 == 0) = false := beq_eq_false_iff_ne.mpr c30
      have c30b1 : (t547 != 0) = true := bne_iff_ne.mpr c30
      have H' := Aq.mk H
      clear H
      go_wp2
      go_meet
      case rel => exact ⟨_, (true), (by first | rfl | (simp; done) | (simp [*]; done)), H', ⟨by first | omega | exact Nat.le_refl _⟩, ⟨by (with_reducible repeat (first | refine kQN ?_ _ | refine kQD ?_ | refine kQA ?_ _)); exact BK539.out⟩, ⟨by repeat (first | (with_reducible first | exact HB.out | apply bQA | apply bQN | apply bQ1 | refine bQS ?_ GE539.out) | exact HB.out)⟩⟩
    ·rw [if_neg c29] at H
     have c29b0 : (t545 == 0) = false := beq_eq_false_iff_ne.mpr c29
     have c29b1 : (t545 != 0) = true := bne_iff_ne.mpr c29
     (first | rw [c29b0] | (simp only [i64_w, i32_w]; rw [c29b0]) | skip)
     have H' := Aq.mk H
     clear H
     go_wp2
     go_meet
     case rel => exact ⟨_, (true), (by first | rfl | (simp; done) | (simp [*]; done)), H', ⟨by first | omega | exact Nat.le_refl _⟩, ⟨by (with_reducible repeat (first | refine kQN ?_ _ | refine kQD ?_ | refine kQA ?_ _)); exact BK539.out⟩, ⟨by repeat (first | (with_reducible first | exact HB.out | apply bQA | apply bQN | apply bQ1 | refine bQS ?_ GE539.out) | exact HB.out)⟩⟩
   case rest =>
    rename_i z0_0 z0_1 z0_2 z0_3 z0_4 z0_5 z0_6 z0_7
    revert k A0 c0 l0 A1 c1 l1 r w hu39 HR0 HC0 HR1 HC1 A3 t537 t538 A5 ji6 hji6 c7b0 c7b1 ji8 hji8 hji8_ hji8z hji8u hji8v hji8y hji8x t540 A9 t541 A10 t542 A11 t543 A12 t544 t545 A13 t546 t547 A14 t548 t549 A15 HC16 z0_0 z0_1 z0_2 w17 gb539 w18 GW539 GE539 hcz19_0 hcz19_1 hfz19_0 hfz19_1 w20 hcz21_0 hcz21_1 hfz21_0 hfz21_1 w22 z0_3 nd hcz23_0 hcz23_1 hfz23_0 hfz23_1 w24 hcz25_0 hcz25_1 hfz25_0 hfz25_1 w26 hcz27_0 hcz27_1 hfz27_0 hfz27_1 w28 BK539 HB z0_4 z0_5 z0_6 z0_7 wc u41 u42 u43 u44 u45 u46 u47 u48 u49 u50 u51 u52 u53 u54 u55 u56 u57 u58 u59 u60 u61 u62 u63 u64 u65 u66 u67 u68 u69 u70 u71 u72 u73 u74 u75 u76 u77 u78 u79 u80 u81 u82 u83 u84 u85 u86 u87 u88 u89 u90 u91 u92 u93 u94 u95 u96 u97 u98 u99 u100 u101 u102 u103 u104 u105 u106 u107 u108 u109 u110 u111 u112 u113 u114 u115 u116 u117 u118 u119 u120 u121 u122 u123 u124 u125 u126 u127 u128 u129 u130 u131 u132 u133 u134 u135 u136 u137 u138 u139 u140 u141 u142 u143 u144 u145 u146 u147 u148 u149 u150 u151 u152 u153 u154 u155 u156 u157 u158 u159 u160 u161 u162 u163 u164 u165 u166 u167 u168 u169 u170 u171 u172 u173 u174 u175 u176 u177 u178 u179 u180 u181 u182 u183 u184 u185 u186 u187 u188 u189 u190 u191 u192 u193 u194 u195 u196 u197 u198 u199 u200 u201 u202 u203 u204 u205 u206 u207 u208 u209 u210 u211 u212 u213 u214 u215 u216 u217 u218 u219 u220 u221 u222 u223 u224 u225 u226 u227 u228 u229 u230 u231 u232 u233 u234 u235 u236 u237 u238 u239 u240 u241 u242 u243 u244 u245 u246 u247 u248 u249 u250 u251 u252 u253 u254 u255 u256 u257 u258 u259 u260 u261 u262 u263 u264 u265 u266 u267 u268 u269 u270 u271 u272 u273 u274 u275 u276 u277 u278 u279 u280 u281 u282 u283 u284 u285 u286 u287 u288 u289 u290 u291 u292 u293 u294 u295 u296 u297 u298 u299 u300 u301 u302 u303 u304 u305 u306 u307 u308 u309 u310 u311 hcut
    exact hG_.out
  ·rw [if_neg c7] at H
   exact absurd H (by simp)
end Go.Proofs.Ytljcjoodnkdljaa.P
