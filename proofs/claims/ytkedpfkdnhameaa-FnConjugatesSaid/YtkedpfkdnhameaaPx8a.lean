/- Functions of the program and what they tell, as the printing program wrote it. -/
import Derived.Test.YtkedpfkdnhameaaPx0
import Derived.Test.YtkedpfkdnhameaaPx1
import Derived.Test.YtkedpfkdnhameaaPx2
import Derived.Test.YtkedpfkdnhameaaPx3
import Derived.Test.YtkedpfkdnhameaaPx4
import Derived.Test.YtkedpfkdnhameaaPx5
import Derived.Test.YtkedpfkdnhameaaPx6
import Derived.Test.YtkedpfkdnhameaaPx7
namespace Go.Proofs.Ytkedpfkdnhameaa.P
open Go.Shelf Go.RowKit Go.Proofs.YtkedpfkdnhameaaW.PrintWords Go.Proofs.YtkedpfkdnhameaaW.PrintLast Go.Proofs.YtkedpfkdnhameaaW.PrintMore
attribute [local go_sem] max2_int min2_int max_two min_two max_three min_three max_four min_four
set_option linter.unusedVariables false
set_option linter.unusedSimpArgs false
mutual
def laws_FnConjugates.j0 : Nat → Int → Int → Int → List Int → Int → Bool → Int → Int → Option (Bool)
  | 0, _, _, _, _, _, _, _, _ => none
  | k + 1, x6, x7, x8, x9, x11, x97, x274000, x274001 => if x97 = true then (some false) else (laws_FnConjugates.l0 k x6 x7 x8 x9 x11 0 x274000 x274001)
def laws_FnConjugates.l0 : Nat → Int → Int → Int → List Int → Int → Int → Int → Int → Option (Bool)
  | 0, _, _, _, _, _, _, _, _ => none
  | k + 1, x6, x7, x8, x9, x11, x13, x274000, x274001 => if x13 < (x9.length : Int) then (if 0 ≤ x13 then ((impl_MinimalPoly.f k x274000 x274001 (rd x9 x13)).bind fun bt286 => (laws_FnConjugates.l1 k x6 x7 x8 x9 x11 x13 bt286.1 bt286.2 0 0 x274000 x274001)) else (none)) else (laws_FnConjugates.l2 k x6 x7 x8 0 0 x274000 x274001)
def laws_FnConjugates.l1 : Nat → Int → Int → Int → List Int → Int → Int → Int → Int → Int → Int → Int → Int → Option (Bool)
  | 0, _, _, _, _, _, _, _, _, _, _, _, _ => none
  | k + 1, x6, x7, x8, x9, x11, x13, x14, x15, x16, x17, x274000, x274001 => if x17 ≤ (x9.length : Int) then (if 0 ≤ (IntKind.u64.wrap (x17)) then (if (Go.bits .and .i64 (shr .i64 x11 (IntKind.u64.wrap (x17))) 1) = 1 then (if 0 ≤ x13 then (if x13 < (x9.length : Int) then ((impl_PowerIn.f k x274000 x274001 (rd x9 x13) x17).bind fun bt289 => (if bt289.2 = 0 then (laws_FnConjugates.l1 k x6 x7 x8 x9 x11 x13 x14 x15 (Go.bits .xor .i64 x16 bt289.1) (wrap64 (x17 + 1)) x274000 x274001) else (some false))) else (none)) else (none)) else (laws_FnConjugates.l1 k x6 x7 x8 x9 x11 x13 x14 x15 x16 (wrap64 (x17 + 1)) x274000 x274001)) else (none)) else (if x15 = 0 then (if x14 = x11 then (if x16 = 0 then (laws_FnConjugates.l0 k x6 x7 x8 x9 x11 (wrap64 (x13 + 1)) x274000 x274001) else (some false)) else (some false)) else (some false))
def laws_FnConjugates.l2 : Nat → Int → Int → Int → Int → Int → Int → Int → Option (Bool)
  | 0, _, _, _, _, _, _, _ => none
  | k + 1, x6, x7, x8, x20, x21, x274000, x274001 => if x21 < x6 then ((impl_TraceIn.f k x274000 x274001 x21).bind fun bt297 => ((impl_SplitIn.f k x274000 x274001 x21).bind fun bt299 => (if bt297.2 = 0 then (if bt297.1 = 0 then (laws_FnConjugates.j4 k x6 x7 x8 x20 x21 bt297.1 bt299.1 ((bt299.2 == 0) != (bt297.1 == 0)) x274000 x274001) else (if bt297.1 = 1 then (laws_FnConjugates.j4 k x6 x7 x8 x20 x21 bt297.1 bt299.1 ((bt299.2 == 0) != (bt297.1 == 0)) x274000 x274001) else (laws_FnConjugates.j4 k x6 x7 x8 x20 x21 bt297.1 bt299.1 true x274000 x274001))) else (laws_FnConjugates.j4 k x6 x7 x8 x20 x21 bt297.1 bt299.1 true x274000 x274001)))) else ((impl_TraceIn.f k x274000 x274001 x7).bind fun bt291 => ((impl_TraceIn.f k x274000 x274001 x8).bind fun bt293 => ((impl_TraceIn.f k x274000 x274001 (Go.bits .xor .i64 x7 x8)).bind fun bt295 => (if bt291.2 = 0 then (if bt293.2 = 0 then (if bt295.2 = 0 then (if bt295.1 = (Go.bits .xor .i64 bt291.1 bt293.1) then (some ((wrap64 (2 * x20)) == x6)) else (some false)) else (some false)) else (some false)) else (some false)))))
def laws_FnConjugates.j4 : Nat → Int → Int → Int → Int → Int → Int → Int → Bool → Int → Int → Option (Bool)
  | 0, _, _, _, _, _, _, _, _, _, _ => none
  | k + 1, x6, x7, x8, x20, x21, x22, x24, x184, x274000, x274001 => if x184 = true then (some false) else (if x22 = 0 then (if x24 < 0 then (laws_FnConjugates.j5 k x6 x7 x8 (wrap64 (x20 + x22)) x21 x24 true x274000 x274001) else (laws_FnConjugates.j5 k x6 x7 x8 (wrap64 (x20 + x22)) x21 x24 (decide (x24 ≥ x6)) x274000 x274001)) else (laws_FnConjugates.l2 k x6 x7 x8 (wrap64 (x20 + x22)) (wrap64 (x21 + 1)) x274000 x274001))
def laws_FnConjugates.j5 : Nat → Int → Int → Int → Int → Int → Int → Bool → Int → Int → Option (Bool)
  | 0, _, _, _, _, _, _, _, _, _ => none
  | k + 1, x6, x7, x8, x20, x21, x24, x196, x274000, x274001 => if x196 = true then (some false) else ((impl_MulIn.f k x274000 x274001 x24 x24).bind fun bt301 => (if bt301.2 = 0 then (if (Go.bits .xor .i64 x24 bt301.1) = x21 then (laws_FnConjugates.l2 k x6 x7 x8 x20 (wrap64 (x21 + 1)) x274000 x274001) else (some false)) else (some false)))
end
def laws_FnConjugates.f (k : Nat) (l0 : List Int) (l1 : List Int) : Option (Bool) := (laws_a2Long.f l0 l1).bind fun t270 => (if t270 = true then (some true) else ((spec_A2Field.f k l0).bind fun bt271 => (if 0 ≤ (IntKind.u64.wrap (bt271.1)) then ((spec_A2Element.f k l1 bt271.1 bt271.2 0).bind fun t274 => ((spec_A2Element.f k l1 bt271.1 bt271.2 1).bind fun t275 => ((impl_ConjugatesIn.f k bt271.1 bt271.2 t274).bind fun bt276 => ((impl_MinimalPoly.f k bt271.1 bt271.2 t274).bind fun bt280 => (if bt276.2 = 0 then (if bt280.2 = 0 then (if (bt276.1.length : Int) < 1 then (laws_FnConjugates.j0 k (shl .i64 1 (IntKind.u64.wrap (bt271.1))) t274 t275 bt276.1 bt280.1 true bt271.1 bt271.2) else (if 0 < (bt276.1.length : Int) then (if (rd bt276.1 0) = t274 then ((laws_a2Below.f k bt276.1 (shl .i64 1 (IntKind.u64.wrap (bt271.1)))).bind fun t283 => (if t283 = true then (if (bt276.1.length : Int) = 0 then (none) else (if (Int.tmod bt271.1 (bt276.1.length : Int)) = 0 then ((impl_IsIrreducible.f k bt280.1).bind fun t284 => (laws_FnConjugates.j0 k (shl .i64 1 (IntKind.u64.wrap (bt271.1))) t274 t275 bt276.1 bt280.1 (!t284) bt271.1 bt271.2)) else (laws_FnConjugates.j0 k (shl .i64 1 (IntKind.u64.wrap (bt271.1))) t274 t275 bt276.1 bt280.1 true bt271.1 bt271.2))) else (laws_FnConjugates.j0 k (shl .i64 1 (IntKind.u64.wrap (bt271.1))) t274 t275 bt276.1 bt280.1 true bt271.1 bt271.2))) else (laws_FnConjugates.j0 k (shl .i64 1 (IntKind.u64.wrap (bt271.1))) t274 t275 bt276.1 bt280.1 true bt271.1 bt271.2)) else (none))) else (laws_FnConjugates.j0 k (shl .i64 1 (IntKind.u64.wrap (bt271.1))) t274 t275 bt276.1 bt280.1 true bt271.1 bt271.2)) else (laws_FnConjugates.j0 k (shl .i64 1 (IntKind.u64.wrap (bt271.1))) t274 t275 bt276.1 bt280.1 true bt271.1 bt271.2)))))) else (none))))
theorem laws_FnConjugates.mono_l : ∀ k, (∀ y0 y1 y2 y3 y4 y5 y6 y7, LeO (laws_FnConjugates.j0 k y0 y1 y2 y3 y4 y5 y6 y7) (laws_FnConjugates.j0 (k + 1) y0 y1 y2 y3 y4 y5 y6 y7)) ∧ (∀ y0 y1 y2 y3 y4 y5 y6 y7, LeO (laws_FnConjugates.l0 k y0 y1 y2 y3 y4 y5 y6 y7) (laws_FnConjugates.l0 (k + 1) y0 y1 y2 y3 y4 y5 y6 y7)) ∧ (∀ y0 y1 y2 y3 y4 y5 y6 y7 y8 y9 y10 y11, LeO (laws_FnConjugates.l1 k y0 y1 y2 y3 y4 y5 y6 y7 y8 y9 y10 y11) (laws_FnConjugates.l1 (k + 1) y0 y1 y2 y3 y4 y5 y6 y7 y8 y9 y10 y11)) ∧ (∀ y0 y1 y2 y3 y4 y5 y6, LeO (laws_FnConjugates.l2 k y0 y1 y2 y3 y4 y5 y6) (laws_FnConjugates.l2 (k + 1) y0 y1 y2 y3 y4 y5 y6)) ∧ (∀ y0 y1 y2 y3 y4 y5 y6 y7 y8 y9, LeO (laws_FnConjugates.j4 k y0 y1 y2 y3 y4 y5 y6 y7 y8 y9) (laws_FnConjugates.j4 (k + 1) y0 y1 y2 y3 y4 y5 y6 y7 y8 y9)) ∧ (∀ y0 y1 y2 y3 y4 y5 y6 y7 y8, LeO (laws_FnConjugates.j5 k y0 y1 y2 y3 y4 y5 y6 y7 y8) (laws_FnConjugates.j5 (k + 1) y0 y1 y2 y3 y4 y5 y6 y7 y8))
 | 0 => ⟨fun _ _ _ _ _ _ _ _ r h => by simp [laws_FnConjugates.j0] at h, fun _ _ _ _ _ _ _ _ r h => by simp [laws_FnConjugates.l0] at h, fun _ _ _ _ _ _ _ _ _ _ _ _ r h => by simp [laws_FnConjugates.l1] at h, fun _ _ _ _ _ _ _ r h => by simp [laws_FnConjugates.l2] at h, fun _ _ _ _ _ _ _ _ _ _ r h => by simp [laws_FnConjugates.j4] at h, fun _ _ _ _ _ _ _ _ _ r h => by simp [laws_FnConjugates.j5] at h⟩
 | k + 1 => by
  obtain ⟨ih0, ih1, ih2, ih3, ih4, ih5⟩ := laws_FnConjugates.mono_l k
  refine ⟨?_, ?_, ?_, ?_, ?_, ?_⟩
  ·intro y0 y1 y2 y3 y4 y5 y6 y7
   unfold laws_FnConjugates.j0
   repeat' first
   | (with_reducible first | exact ih0 _ _ _ _ _ _ _ _ | exact ih1 _ _ _ _ _ _ _ _ | exact ih2 _ _ _ _ _ _ _ _ _ _ _ _ | exact ih3 _ _ _ _ _ _ _ | exact ih4 _ _ _ _ _ _ _ _ _ _ | exact ih5 _ _ _ _ _ _ _ _ _ | exact impl_ConjugatesIn.mono _ _ _ _ | exact impl_IsIrreducible.mono _ _ | exact impl_MinimalPoly.mono _ _ _ _ | exact impl_MulIn.mono _ _ _ _ _ | exact impl_PowerIn.mono _ _ _ _ _ | exact impl_SplitIn.mono _ _ _ _ | exact impl_TraceIn.mono _ _ _ _ | exact laws_a2Below.mono _ _ _ | exact spec_A2Element.mono _ _ _ _ _ | exact spec_A2Field.mono _ _ | exact LeO.refl _ | exact LeO.none _ | refine LeO.ite ?_ ?_ | refine LeO.bind ?_ (fun _ => ?_))
   | exact LeO.none _
   | refine LeO.ite ?_ ?_
   | refine LeO.bind ?_ (fun _ => ?_)
  ·intro y0 y1 y2 y3 y4 y5 y6 y7
   unfold laws_FnConjugates.l0
   repeat' first
   | (with_reducible first | exact ih0 _ _ _ _ _ _ _ _ | exact ih1 _ _ _ _ _ _ _ _ | exact ih2 _ _ _ _ _ _ _ _ _ _ _ _ | exact ih3 _ _ _ _ _ _ _ | exact ih4 _ _ _ _ _ _ _ _ _ _ | exact ih5 _ _ _ _ _ _ _ _ _ | exact impl_ConjugatesIn.mono _ _ _ _ | exact impl_IsIrreducible.mono _ _ | exact impl_MinimalPoly.mono _ _ _ _ | exact impl_MulIn.mono _ _ _ _ _ | exact impl_PowerIn.mono _ _ _ _ _ | exact impl_SplitIn.mono _ _ _ _ | exact impl_TraceIn.mono _ _ _ _ | exact laws_a2Below.mono _ _ _ | exact spec_A2Element.mono _ _ _ _ _ | exact spec_A2Field.mono _ _ | exact LeO.refl _ | exact LeO.none _ | refine LeO.ite ?_ ?_ | refine LeO.bind ?_ (fun _ => ?_))
   | exact LeO.none _
   | refine LeO.ite ?_ ?_
   | refine LeO.bind ?_ (fun _ => ?_)
  ·intro y0 y1 y2 y3 y4 y5 y6 y7 y8 y9 y10 y11
   unfold laws_FnConjugates.l1
   repeat' first
   | (with_reducible first | exact ih0 _ _ _ _ _ _ _ _ | exact ih1 _ _ _ _ _ _ _ _ | exact ih2 _ _ _ _ _ _ _ _ _ _ _ _ | exact ih3 _ _ _ _ _ _ _ | exact ih4 _ _ _ _ _ _ _ _ _ _ | exact ih5 _ _ _ _ _ _ _ _ _ | exact impl_ConjugatesIn.mono _ _ _ _ | exact impl_IsIrreducible.mono _ _ | exact impl_MinimalPoly.mono _ _ _ _ | exact impl_MulIn.mono _ _ _ _ _ | exact impl_PowerIn.mono _ _ _ _ _ | exact impl_SplitIn.mono _ _ _ _ | exact impl_TraceIn.mono _ _ _ _ | exact laws_a2Below.mono _ _ _ | exact spec_A2Element.mono _ _ _ _ _ | exact spec_A2Field.mono _ _ | exact LeO.refl _ | exact LeO.none _ | refine LeO.ite ?_ ?_ | refine LeO.bind ?_ (fun _ => ?_))
   | exact LeO.none _
   | refine LeO.ite ?_ ?_
   | refine LeO.bind ?_ (fun _ => ?_)
  ·intro y0 y1 y2 y3 y4 y5 y6
   unfold laws_FnConjugates.l2
   repeat' first
   | (with_reducible first | exact ih0 _ _ _ _ _ _ _ _ | exact ih1 _ _ _ _ _ _ _ _ | exact ih2 _ _ _ _ _ _ _ _ _ _ _ _ | exact ih3 _ _ _ _ _ _ _ | exact ih4 _ _ _ _ _ _ _ _ _ _ | exact ih5 _ _ _ _ _ _ _ _ _ | exact impl_ConjugatesIn.mono _ _ _ _ | exact impl_IsIrreducible.mono _ _ | exact impl_MinimalPoly.mono _ _ _ _ | exact impl_MulIn.mono _ _ _ _ _ | exact impl_PowerIn.mono _ _ _ _ _ | exact impl_SplitIn.mono _ _ _ _ | exact impl_TraceIn.mono _ _ _ _ | exact laws_a2Below.mono _ _ _ | exact spec_A2Element.mono _ _ _ _ _ | exact spec_A2Field.mono _ _ | exact LeO.refl _ | exact LeO.none _ | refine LeO.ite ?_ ?_ | refine LeO.bind ?_ (fun _ => ?_))
   | exact LeO.none _
   | refine LeO.ite ?_ ?_
   | refine LeO.bind ?_ (fun _ => ?_)
  ·intro y0 y1 y2 y3 y4 y5 y6 y7 y8 y9
   unfold laws_FnConjugates.j4
   repeat' first
   | (with_reducible first | exact ih0 _ _ _ _ _ _ _ _ | exact ih1 _ _ _ _ _ _ _ _ | exact ih2 _ _ _ _ _ _ _ _ _ _ _ _ | exact ih3 _ _ _ _ _ _ _ | exact ih4 _ _ _ _ _ _ _ _ _ _ | exact ih5 _ _ _ _ _ _ _ _ _ | exact impl_ConjugatesIn.mono _ _ _ _ | exact impl_IsIrreducible.mono _ _ | exact impl_MinimalPoly.mono _ _ _ _ | exact impl_MulIn.mono _ _ _ _ _ | exact impl_PowerIn.mono _ _ _ _ _ | exact impl_SplitIn.mono _ _ _ _ | exact impl_TraceIn.mono _ _ _ _ | exact laws_a2Below.mono _ _ _ | exact spec_A2Element.mono _ _ _ _ _ | exact spec_A2Field.mono _ _ | exact LeO.refl _ | exact LeO.none _ | refine LeO.ite ?_ ?_ | refine LeO.bind ?_ (fun _ => ?_))
   | exact LeO.none _
   | refine LeO.ite ?_ ?_
   | refine LeO.bind ?_ (fun _ => ?_)
  ·intro y0 y1 y2 y3 y4 y5 y6 y7 y8
   unfold laws_FnConjugates.j5
   repeat' first
   | (with_reducible first | exact ih0 _ _ _ _ _ _ _ _ | exact ih1 _ _ _ _ _ _ _ _ | exact ih2 _ _ _ _ _ _ _ _ _ _ _ _ | exact ih3 _ _ _ _ _ _ _ | exact ih4 _ _ _ _ _ _ _ _ _ _ | exact ih5 _ _ _ _ _ _ _ _ _ | exact impl_ConjugatesIn.mono _ _ _ _ | exact impl_IsIrreducible.mono _ _ | exact impl_MinimalPoly.mono _ _ _ _ | exact impl_MulIn.mono _ _ _ _ _ | exact impl_PowerIn.mono _ _ _ _ _ | exact impl_SplitIn.mono _ _ _ _ | exact impl_TraceIn.mono _ _ _ _ | exact laws_a2Below.mono _ _ _ | exact spec_A2Element.mono _ _ _ _ _ | exact spec_A2Field.mono _ _ | exact LeO.refl _ | exact LeO.none _ | refine LeO.ite ?_ ?_ | refine LeO.bind ?_ (fun _ => ?_))
   | exact LeO.none _
   | refine LeO.ite ?_ ?_
   | refine LeO.bind ?_ (fun _ => ?_)
theorem laws_FnConjugates.mono : ∀ a0 a1 k, LeO (laws_FnConjugates.f k a0 a1) (laws_FnConjugates.f (k + 1) a0 a1) := by
 intro a0 a1 k
 obtain ⟨ih0, ih1, ih2, ih3, ih4, ih5⟩ := laws_FnConjugates.mono_l k
 unfold laws_FnConjugates.f
 repeat' first
  | (with_reducible first | exact ih0 _ _ _ _ _ _ _ _ | exact ih1 _ _ _ _ _ _ _ _ | exact ih2 _ _ _ _ _ _ _ _ _ _ _ _ | exact ih3 _ _ _ _ _ _ _ | exact ih4 _ _ _ _ _ _ _ _ _ _ | exact ih5 _ _ _ _ _ _ _ _ _ | exact impl_ConjugatesIn.mono _ _ _ _ | exact impl_IsIrreducible.mono _ _ | exact impl_MinimalPoly.mono _ _ _ _ | exact impl_MulIn.mono _ _ _ _ _ | exact impl_PowerIn.mono _ _ _ _ _ | exact impl_SplitIn.mono _ _ _ _ | exact impl_TraceIn.mono _ _ _ _ | exact laws_a2Below.mono _ _ _ | exact spec_A2Element.mono _ _ _ _ _ | exact spec_A2Field.mono _ _ | exact LeO.refl _ | exact LeO.none _ | refine LeO.ite ?_ ?_ | refine LeO.bind ?_ (fun _ => ?_))
  | exact LeO.none _
  | refine LeO.ite ?_ ?_
  | refine LeO.bind ?_ (fun _ => ?_)
def laws_FnConjugates.T14 : Bool × List (List Nat × List Nat) := (true, [([], []), ([], []), ([], []), ([1, 2], [1, 2]), ([3], [3]), ([0, 4], [0, 4]), ([5], [5]), ([6], [6]), ([6], [6]), ([7, 5, 0, 1, 2, 3, 4, 5, 6, 7], [7]), ([8, 9, 0, 1, 2, 3, 4, 5, 6, 7, 8, 9], [8])])
def laws_FnConjugates.B14 : List Nat := [0, 0, 0, 6, 14, 31, 63, 127, 127, 255, 1023]
theorem laws_FnConjugates.tab14 : rtab .any (opsOf Try.f3 14) = laws_FnConjugates.T14 := by kernel_rfl
theorem laws_FnConjugates.bits14 : waitsOk laws_FnConjugates.T14.2 laws_FnConjugates.B14 = true := by kernel_rfl
def laws_FnConjugates.T20 : Bool × List (List Nat × List Nat) := (true, [([], []), ([], []), ([], []), ([1, 2], [1, 2]), ([3], [3]), ([], []), ([0, 4, 5], [0, 4, 5]), ([6], [6]), ([7], [7]), ([7], [7]), ([8, 6, 0, 1, 2, 3, 4, 5, 6, 7, 8], [8]), ([9, 10, 0, 1, 2, 3, 4, 5, 6, 7, 8, 9, 10], [9])])
def laws_FnConjugates.B20 : List Nat := [0, 0, 0, 6, 14, 0, 63, 127, 255, 255, 511, 2047]
theorem laws_FnConjugates.tab20 : rtab .any (opsOf Try.f3 20) = laws_FnConjugates.T20 := by kernel_rfl
theorem laws_FnConjugates.bits20 : waitsOk laws_FnConjugates.T20.2 laws_FnConjugates.B20 = true := by kernel_rfl
structure laws_FnConjugates.W (p : Prop) : Prop where mk :: (out : p)
set_option maxHeartbeats 8000000 in
set_option maxRecDepth 100000 in
noncomputable def laws_FnConjugates.G0 : { G_ : Prop // laws_FnConjugates.W G_ → ∀ (k : Nat) (A0 : Option Addr) (c0 : Nat) (l0 : List Int) (A1 : Option Addr) (c1 : Nat) (l1 : List Int) (r : Bool) (w : World) (hr0 : Kd.C (Kd.int .u8) w A0 l0.length l0) (hc0 : l0.length ≤ c0) (hr1 : Kd.C (Kd.int .u8) w A1 l1.length l1) (hc1 : l1.length ≤ c1) (h : laws_FnConjugates.f k l0 l1 = some r), Calls Try.prog 3 #[.slice A0 l0.length c0, .slice A1 l1.length c1] w fun e w' => e = .returned (.bool r) ∧ Below w.heap.size w w' } := by
 constructor
 intro hG_
 intro k A0 c0 l0 A1 c1 l1 r w hr0 hc0 hr1 hc1 h
 have hu25 := Try.underlying25
 have HR0 := Aq.mk hr0
 have HC0 := Aq.mk hc0
 clear hr0 hc0
 have HR1 := Aq.mk hr1
 have HC1 := Aq.mk hc1
 clear hr1 hc1
 have HB := Aq.mk (Below.refl w.heap.size w)
 have H : ((laws_a2Long.f l0 l1).bind fun t270 => (if t270 = true then (some true) else ((spec_A2Field.f k l0).bind fun bt271 => (if 0 ≤ (IntKind.u64.wrap (bt271.1)) then ((spec_A2Element.f k l1 bt271.1 bt271.2 0).bind fun t274 => ((spec_A2Element.f k l1 bt271.1 bt271.2 1).bind fun t275 => ((impl_ConjugatesIn.f k bt271.1 bt271.2 t274).bind fun bt276 => ((impl_MinimalPoly.f k bt271.1 bt271.2 t274).bind fun bt280 => (if bt276.2 = 0 then (if bt280.2 = 0 then (if (bt276.1.length : Int) < 1 then (laws_FnConjugates.j0 k (shl .i64 1 (IntKind.u64.wrap (bt271.1))) t274 t275 bt276.1 bt280.1 true bt271.1 bt271.2) else (if 0 < (bt276.1.length : Int) then (if (rd bt276.1 0) = t274 then ((laws_a2Below.f k bt276.1 (shl .i64 1 (IntKind.u64.wrap (bt271.1)))).bind fun t283 => (if t283 = true then (if (bt276.1.length : Int) = 0 then (none) else (if (Int.tmod bt271.1 (bt276.1.length : Int)) = 0 then ((impl_IsIrreducible.f k bt280.1).bind fun t284 => (laws_FnConjugates.j0 k (shl .i64 1 (IntKind.u64.wrap (bt271.1))) t274 t275 bt276.1 bt280.1 (!t284) bt271.1 bt271.2)) else (laws_FnConjugates.j0 k (shl .i64 1 (IntKind.u64.wrap (bt271.1))) t274 t275 bt276.1 bt280.1 true bt271.1 bt271.2))) else (laws_FnConjugates.j0 k (shl .i64 1 (IntKind.u64.wrap (bt271.1))) t274 t275 bt276.1 bt280.1 true bt271.1 bt271.2))) else (laws_FnConjugates.j0 k (shl .i64 1 (IntKind.u64.wrap (bt271.1))) t274 t275 bt276.1 bt280.1 true bt271.1 bt271.2)) else (none))) else (laws_FnConjugates.j0 k (shl .i64 1 (IntKind.u64.wrap (bt271.1))) t274 t275 bt276.1 bt280.1 true bt271.1 bt271.2)) else (laws_FnConjugates.j0 k (shl .i64 1 (IntKind.u64.wrap (bt271.1))) t274 t275 bt276.1 bt280.1 true bt271.1 bt271.2)))))) else (none))))) = some r := h
 clear h
 replace H := Option.bind_eq_some_iff.mp H
 obtain ⟨t270, A30, H⟩ := H
 replace H : (if t270 = true then (some true) else ((spec_A2Field.f k l0).bind fun bt271 => (if 0 ≤ (IntKind.u64.wrap (bt271.1)) then ((spec_A2Element.f k l1 bt271.1 bt271.2 0).bind fun t274 => ((spec_A2Element.f k l1 bt271.1 bt271.2 1).bind fun t275 => ((impl_ConjugatesIn.f k bt271.1 bt271.2 t274).bind fun bt276 => ((impl_MinimalPoly.f k bt271.1 bt271.2 t274).bind fun bt280 => (if bt276.2 = 0 then (if bt280.2 = 0 then (if (bt276.1.length : Int) < 1 then (laws_FnConjugates.j0 k (shl .i64 1 (IntKind.u64.wrap (bt271.1))) t274 t275 bt276.1 bt280.1 true bt271.1 bt271.2) else (if 0 < (bt276.1.length : Int) then (if (rd bt276.1 0) = t274 then ((laws_a2Below.f k bt276.1 (shl .i64 1 (IntKind.u64.wrap (bt271.1)))).bind fun t283 => (if t283 = true then (if (bt276.1.length : Int) = 0 then (none) else (if (Int.tmod bt271.1 (bt276.1.length : Int)) = 0 then ((impl_IsIrreducible.f k bt280.1).bind fun t284 => (laws_FnConjugates.j0 k (shl .i64 1 (IntKind.u64.wrap (bt271.1))) t274 t275 bt276.1 bt280.1 (!t284) bt271.1 bt271.2)) else (laws_FnConjugates.j0 k (shl .i64 1 (IntKind.u64.wrap (bt271.1))) t274 t275 bt276.1 bt280.1 true bt271.1 bt271.2))) else (laws_FnConjugates.j0 k (shl .i64 1 (IntKind.u64.wrap (bt271.1))) t274 t275 bt276.1 bt280.1 true bt271.1 bt271.2))) else (laws_FnConjugates.j0 k (shl .i64 1 (IntKind.u64.wrap (bt271.1))) t274 t275 bt276.1 bt280.1 true bt271.1 bt271.2)) else (none))) else (laws_FnConjugates.j0 k (shl .i64 1 (IntKind.u64.wrap (bt271.1))) t274 t275 bt276.1 bt280.1 true bt271.1 bt271.2)) else (laws_FnConjugates.j0 k (shl .i64 1 (IntKind.u64.wrap (bt271.1))) t274 t275 bt276.1 bt280.1 true bt271.1 bt271.2)))))) else (none)))) = some r := H
 have A3 := Aq.mk A30
 clear A30
 by_cases c4 : t270 = true
 ·subst c4
  have H1 : (some true) = some r := by rw [if_pos rfl] at H; exact H
  clear H
  have H := H1
  clear H1
  obtain rfl := Option.some.inj H
  go_enter Try.func3, Try.ntmps3
  go_wp2_with (first | ((with_reducible refine gQc (f := 4) rfl ?_); refine goesL_ (some 36) rfl rfl Try.func4 (by kernel_rfl) rfl #[.slice A0 l0.length c0, .slice A1 l1.length c1] rfl (by (try simp only [List.map_toArray, List.map_cons, List.map_nil]); first | done | rfl | (simp only [List.length_drop, List.length_take]; rfl)) ?_; (with_reducible refine (laws_a2Long.calls _ _ l0 _ _ l1 true _ ?side1 ?side2 ?side3 ?side4 A3.out).mono ?_); (case side1 => repeat (first | exact HR0.out | (with_reducible refine Kd.CqA ?_ _) | (with_reducible refine Kd.CqN ?_ _) | (with_reducible refine Kd.CqD ?_))); (case side2 => exact HC0.out); (case side3 => repeat (first | exact HR1.out | (with_reducible refine Kd.CqA ?_ _) | (with_reducible refine Kd.CqN ?_ _) | (with_reducible refine Kd.CqD ?_))); (case side4 => exact HC1.out); rintro e w' ⟨rfl, ⟨nd, rfl⟩⟩; refine ⟨_, rfl, ?_⟩))
  go_ret
  exact ⟨by first | rfl | (simp [errW_none, errW_some] <;> rfl) | (simp [*, errW_none, errW_some] <;> rfl), by repeat (first | (with_reducible first | exact HB.out | apply bQA | apply bQN | apply bQ1) | exact HB.out)⟩
 ·replace c4 := Bool.eq_false_iff.mpr c4
  subst c4
  have H1 : ((spec_A2Field.f k l0).bind fun bt271 => (if 0 ≤ (IntKind.u64.wrap (bt271.1)) then ((spec_A2Element.f k l1 bt271.1 bt271.2 0).bind fun t274 => ((spec_A2Element.f k l1 bt271.1 bt271.2 1).bind fun t275 => ((impl_ConjugatesIn.f k bt271.1 bt271.2 t274).bind fun bt276 => ((impl_MinimalPoly.f k bt271.1 bt271.2 t274).bind fun bt280 => (if bt276.2 = 0 then (if bt280.2 = 0 then (if (bt276.1.length : Int) < 1 then (laws_FnConjugates.j0 k (shl .i64 1 (IntKind.u64.wrap (bt271.1))) t274 t275 bt276.1 bt280.1 true bt271.1 bt271.2) else (if 0 < (bt276.1.length : Int) then (if (rd bt276.1 0) = t274 then ((laws_a2Below.f k bt276.1 (shl .i64 1 (IntKind.u64.wrap (bt271.1)))).bind fun t283 => (if t283 = true then (if (bt276.1.length : Int) = 0 then (none) else (if (Int.tmod bt271.1 (bt276.1.length : Int)) = 0 then ((impl_IsIrreducible.f k bt280.1).bind fun t284 => (laws_FnConjugates.j0 k (shl .i64 1 (IntKind.u64.wrap (bt271.1))) t274 t275 bt276.1 bt280.1 (!t284) bt271.1 bt271.2)) else (laws_FnConjugates.j0 k (shl .i64 1 (IntKind.u64.wrap (bt271.1))) t274 t275 bt276.1 bt280.1 true bt271.1 bt271.2))) else (laws_FnConjugates.j0 k (shl .i64 1 (IntKind.u64.wrap (bt271.1))) t274 t275 bt276.1 bt280.1 true bt271.1 bt271.2))) else (laws_FnConjugates.j0 k (shl .i64 1 (IntKind.u64.wrap (bt271.1))) t274 t275 bt276.1 bt280.1 true bt271.1 bt271.2)) else (none))) else (laws_FnConjugates.j0 k (shl .i64 1 (IntKind.u64.wrap (bt271.1))) t274 t275 bt276.1 bt280.1 true bt271.1 bt271.2)) else (laws_FnConjugates.j0 k (shl .i64 1 (IntKind.u64.wrap (bt271.1))) t274 t275 bt276.1 bt280.1 true bt271.1 bt271.2)))))) else (none))) = some r := by rw [if_neg (show ¬ (false = true) by decide)] at H; exact H
  clear H
  have H := H1
  clear H1
  replace H := Option.bind_eq_some_iff.mp H
  obtain ⟨⟨t271, t272⟩, A50, H⟩ := H
  replace H : (if 0 ≤ (IntKind.u64.wrap (t271)) then ((spec_A2Element.f k l1 t271 t272 0).bind fun t274 => ((spec_A2Element.f k l1 t271 t272 1).bind fun t275 => ((impl_ConjugatesIn.f k t271 t272 t274).bind fun bt276 => ((impl_MinimalPoly.f k t271 t272 t274).bind fun bt280 => (if bt276.2 = 0 then (if bt280.2 = 0 then (if (bt276.1.length : Int) < 1 then (laws_FnConjugates.j0 k (shl .i64 1 (IntKind.u64.wrap (t271))) t274 t275 bt276.1 bt280.1 true t271 t272) else (if 0 < (bt276.1.length : Int) then (if (rd bt276.1 0) = t274 then ((laws_a2Below.f k bt276.1 (shl .i64 1 (IntKind.u64.wrap (t271)))).bind fun t283 => (if t283 = true then (if (bt276.1.length : Int) = 0 then (none) else (if (Int.tmod t271 (bt276.1.length : Int)) = 0 then ((impl_IsIrreducible.f k bt280.1).bind fun t284 => (laws_FnConjugates.j0 k (shl .i64 1 (IntKind.u64.wrap (t271))) t274 t275 bt276.1 bt280.1 (!t284) t271 t272)) else (laws_FnConjugates.j0 k (shl .i64 1 (IntKind.u64.wrap (t271))) t274 t275 bt276.1 bt280.1 true t271 t272))) else (laws_FnConjugates.j0 k (shl .i64 1 (IntKind.u64.wrap (t271))) t274 t275 bt276.1 bt280.1 true t271 t272))) else (laws_FnConjugates.j0 k (shl .i64 1 (IntKind.u64.wrap (t271))) t274 t275 bt276.1 bt280.1 true t271 t272)) else (none))) else (laws_FnConjugates.j0 k (shl .i64 1 (IntKind.u64.wrap (t271))) t274 t275 bt276.1 bt280.1 true t271 t272)) else (laws_FnConjugates.j0 k (shl .i64 1 (IntKind.u64.wrap (t271))) t274 t275 bt276.1 bt280.1 true t271 t272)))))) else (none)) = some r := H
  have A5 := Aq.mk A50
  clear A50
  obtain ⟨ji6, hji6⟩ : ∃ j_ : Int, (IntKind.u64.wrap (t271)) = j_ := ⟨_, rfl⟩
  replace H : (if 0 ≤ (ji6) then ((spec_A2Element.f k l1 t271 t272 0).bind fun t274 => ((spec_A2Element.f k l1 t271 t272 1).bind fun t275 => ((impl_ConjugatesIn.f k t271 t272 t274).bind fun bt276 => ((impl_MinimalPoly.f k t271 t272 t274).bind fun bt280 => (if bt276.2 = 0 then (if bt280.2 = 0 then (if (bt276.1.length : Int) < 1 then (laws_FnConjugates.j0 k (shl .i64 1 (ji6)) t274 t275 bt276.1 bt280.1 true t271 t272) else (if 0 < (bt276.1.length : Int) then (if (rd bt276.1 0) = t274 then ((laws_a2Below.f k bt276.1 (shl .i64 1 (ji6))).bind fun t283 => (if t283 = true then (if (bt276.1.length : Int) = 0 then (none) else (if (Int.tmod t271 (bt276.1.length : Int)) = 0 then ((impl_IsIrreducible.f k bt280.1).bind fun t284 => (laws_FnConjugates.j0 k (shl .i64 1 (ji6)) t274 t275 bt276.1 bt280.1 (!t284) t271 t272)) else (laws_FnConjugates.j0 k (shl .i64 1 (ji6)) t274 t275 bt276.1 bt280.1 true t271 t272))) else (laws_FnConjugates.j0 k (shl .i64 1 (ji6)) t274 t275 bt276.1 bt280.1 true t271 t272))) else (laws_FnConjugates.j0 k (shl .i64 1 (ji6)) t274 t275 bt276.1 bt280.1 true t271 t272)) else (none))) else (laws_FnConjugates.j0 k (shl .i64 1 (ji6)) t274 t275 bt276.1 bt280.1 true t271 t272)) else (laws_FnConjugates.j0 k (shl .i64 1 (ji6)) t274 t275 bt276.1 bt280.1 true t271 t272)))))) else (none)) = some r := by first | (rw [hji6] at H; exact H) | (simp only [hji6] at H ⊢; exact H)
  (try rw [hji6] at A3)
  (try rw [hji6] at A5)
  by_cases c7 : 0 ≤ (ji6)
  ·rw [if_pos c7] at H
   have c7b0 := eq_true c7
   have c7b1 : decide (0 ≤ (ji6)) = true := decide_eq_true c7
   clear c7
   obtain ⟨ji8, hji8⟩ : ∃ j_ : Int, (shl .i64 1 (ji6)) = j_ := ⟨_, rfl⟩
   replace H : ((spec_A2Element.f k l1 t271 t272 0).bind fun t274 => ((spec_A2Element.f k l1 t271 t272 1).bind fun t275 => ((impl_ConjugatesIn.f k t271 t272 t274).bind fun bt276 => ((impl_MinimalPoly.f k t271 t272 t274).bind fun bt280 => (if bt276.2 = 0 then (if bt280.2 = 0 then (if (bt276.1.length : Int) < 1 then (laws_FnConjugates.j0 k ji8 t274 t275 bt276.1 bt280.1 true t271 t272) else (if 0 < (bt276.1.length : Int) then (if (rd bt276.1 0) = t274 then ((laws_a2Below.f k bt276.1 (ji8)).bind fun t283 => (if t283 = true then (if (bt276.1.length : Int) = 0 then (none) else (if (Int.tmod t271 (bt276.1.length : Int)) = 0 then ((impl_IsIrreducible.f k bt280.1).bind fun t284 => (laws_FnConjugates.j0 k ji8 t274 t275 bt276.1 bt280.1 (!t284) t271 t272)) else (laws_FnConjugates.j0 k ji8 t274 t275 bt276.1 bt280.1 true t271 t272))) else (laws_FnConjugates.j0 k ji8 t274 t275 bt276.1 bt280.1 true t271 t272))) else (laws_FnConjugates.j0 k ji8 t274 t275 bt276.1 bt280.1 true t271 t272)) else (none))) else (laws_FnConjugates.j0 k ji8 t274 t275 bt276.1 bt280.1 true t271 t272)) else (laws_FnConjugates.j0 k ji8 t274 t275 bt276.1 bt280.1 true t271 t272)))))) = some r := by first | (rw [hji8] at H; exact H) | (simp only [hji8] at H ⊢; exact H)
   (try rw [hji8] at A3)
   (try rw [hji8] at A5)
   have hji8_ : (IntKind.i64.wrap (1 * 2 ^ min (ji6).toNat 64)) = ji8 := hji8
   have hji8z : (ji6) ≤ 64 → (IntKind.i64.wrap (1 * 2 ^ (ji6).toNat)) = ji8 := shl_small hji8
   have hji8u : (IntKind.i64.wrap (2 ^ min (ji6).toNat 64)) = ji8 := by have h_ := hji8_; rw [Int.one_mul] at h_; exact h_
   have hji8v : (ji6) ≤ 64 → (IntKind.i64.wrap (2 ^ (ji6).toNat)) = ji8 := fun hle_ => by have h_ := hji8z hle_; rw [Int.one_mul] at h_; exact h_
   have hji8y : (wrap64 (1 * 2 ^ min (ji6).toNat 64)) = ji8 := (i64_w _).symm.trans hji8_
   have hji8x : (ji6) ≤ 64 → (wrap64 (1 * 2 ^ (ji6).toNat)) = ji8 := fun h_ => (i64_w _).symm.trans (hji8z h_)
   replace H := Option.bind_eq_some_iff.mp H
   obtain ⟨t274, A90, H⟩ := H
   replace H : ((spec_A2Element.f k l1 t271 t272 1).bind fun t275 => ((impl_ConjugatesIn.f k t271 t272 t274).bind fun bt276 => ((impl_MinimalPoly.f k t271 t272 t274).bind fun bt280 => (if bt276.2 = 0 then (if bt280.2 = 0 then (if (bt276.1.length : Int) < 1 then (laws_FnConjugates.j0 k ji8 t274 t275 bt276.1 bt280.1 true t271 t272) else (if 0 < (bt276.1.length : Int) then (if (rd bt276.1 0) = t274 then ((laws_a2Below.f k bt276.1 (ji8)).bind fun t283 => (if t283 = true then (if (bt276.1.length : Int) = 0 then (none) else (if (Int.tmod t271 (bt276.1.length : Int)) = 0 then ((impl_IsIrreducible.f k bt280.1).bind fun t284 => (laws_FnConjugates.j0 k ji8 t274 t275 bt276.1 bt280.1 (!t284) t271 t272)) else (laws_FnConjugates.j0 k ji8 t274 t275 bt276.1 bt280.1 true t271 t272))) else (laws_FnConjugates.j0 k ji8 t274 t275 bt276.1 bt280.1 true t271 t272))) else (laws_FnConjugates.j0 k ji8 t274 t275 bt276.1 bt280.1 true t271 t272)) else (none))) else (laws_FnConjugates.j0 k ji8 t274 t275 bt276.1 bt280.1 true t271 t272)) else (laws_FnConjugates.j0 k ji8 t274 t275 bt276.1 bt280.1 true t271 t272))))) = some r := H
   have A9 := Aq.mk A90
   clear A90
   replace H := Option.bind_eq_some_iff.mp H
   obtain ⟨t275, A100, H⟩ := H
   replace H : ((impl_ConjugatesIn.f k t271 t272 t274).bind fun bt276 => ((impl_MinimalPoly.f k t271 t272 t274).bind fun bt280 => (if bt276.2 = 0 then (if bt280.2 = 0 then (if (bt276.1.length : Int) < 1 then (laws_FnConjugates.j0 k ji8 t274 t275 bt276.1 bt280.1 true t271 t272) else (if 0 < (bt276.1.length : Int) then (if (rd bt276.1 0) = t274 then ((laws_a2Below.f k bt276.1 (ji8)).bind fun t283 => (if t283 = true then (if (bt276.1.length : Int) = 0 then (none) else (if (Int.tmod t271 (bt276.1.length : Int)) = 0 then ((impl_IsIrreducible.f k bt280.1).bind fun t284 => (laws_FnConjugates.j0 k ji8 t274 t275 bt276.1 bt280.1 (!t284) t271 t272)) else (laws_FnConjugates.j0 k ji8 t274 t275 bt276.1 bt280.1 true t271 t272))) else (laws_FnConjugates.j0 k ji8 t274 t275 bt276.1 bt280.1 true t271 t272))) else (laws_FnConjugates.j0 k ji8 t274 t275 bt276.1 bt280.1 true t271 t272)) else (none))) else (laws_FnConjugates.j0 k ji8 t274 t275 bt276.1 bt280.1 true t271 t272)) else (laws_FnConjugates.j0 k ji8 t274 t275 bt276.1 bt280.1 true t271 t272)))) = some r := H
   have A10 := Aq.mk A100
   clear A100
   replace H := Option.bind_eq_some_iff.mp H
   obtain ⟨⟨t276, t279⟩, A110, H⟩ := H
   replace H : ((impl_MinimalPoly.f k t271 t272 t274).bind fun bt280 => (if t279 = 0 then (if bt280.2 = 0 then (if (t276.length : Int) < 1 then (laws_FnConjugates.j0 k ji8 t274 t275 t276 bt280.1 true t271 t272) else (if 0 < (t276.length : Int) then (if (rd t276 0) = t274 then ((laws_a2Below.f k t276 (ji8)).bind fun t283 => (if t283 = true then (if (t276.length : Int) = 0 then (none) else (if (Int.tmod t271 (t276.length : Int)) = 0 then ((impl_IsIrreducible.f k bt280.1).bind fun t284 => (laws_FnConjugates.j0 k ji8 t274 t275 t276 bt280.1 (!t284) t271 t272)) else (laws_FnConjugates.j0 k ji8 t274 t275 t276 bt280.1 true t271 t272))) else (laws_FnConjugates.j0 k ji8 t274 t275 t276 bt280.1 true t271 t272))) else (laws_FnConjugates.j0 k ji8 t274 t275 t276 bt280.1 true t271 t272)) else (none))) else (laws_FnConjugates.j0 k ji8 t274 t275 t276 bt280.1 true t271 t272)) else (laws_FnConjugates.j0 k ji8 t274 t275 t276 bt280.1 true t271 t272))) = some r := H
   have A11 := Aq.mk A110
   clear A110
   replace H := Option.bind_eq_some_iff.mp H
   obtain ⟨⟨t280, t281⟩, A120, H⟩ := H
   replace H : (if t279 = 0 then (if t281 = 0 then (if (t276.length : Int) < 1 then (laws_FnConjugates.j0 k ji8 t274 t275 t276 t280 true t271 t272) else (if 0 < (t276.length : Int) then (if (rd t276 0) = t274 then ((laws_a2Below.f k t276 (ji8)).bind fun t283 => (if t283 = true then (if (t276.length : Int) = 0 then (none) else (if (Int.tmod t271 (t276.length : Int)) = 0 then ((impl_IsIrreducible.f k t280).bind fun t284 => (laws_FnConjugates.j0 k ji8 t274 t275 t276 t280 (!t284) t271 t272)) else (laws_FnConjugates.j0 k ji8 t274 t275 t276 t280 true t271 t272))) else (laws_FnConjugates.j0 k ji8 t274 t275 t276 t280 true t271 t272))) else (laws_FnConjugates.j0 k ji8 t274 t275 t276 t280 true t271 t272)) else (none))) else (laws_FnConjugates.j0 k ji8 t274 t275 t276 t280 true t271 t272)) else (laws_FnConjugates.j0 k ji8 t274 t275 t276 t280 true t271 t272)) = some r := H
   have A12 := Aq.mk A120
   clear A120
   have HC13 := Aq.mk H
   clear H
   go_enter Try.func3, Try.ntmps3
   go_upto_region 9 with (first | ((with_reducible refine gQc (f := 4) rfl ?_); refine goesL_ (some 36) rfl rfl Try.func4 (by kernel_rfl) rfl #[.slice A0 l0.length c0, .slice A1 l1.length c1] rfl (by (try simp only [List.map_toArray, List.map_cons, List.map_nil]); first | done | rfl | (simp only [List.length_drop, List.length_take]; rfl)) ?_; (with_reducible refine (laws_a2Long.calls _ _ l0 _ _ l1 false _ ?side1 ?side2 ?side3 ?side4 A3.out).mono ?_); (case side1 => repeat (first | exact HR0.out | (with_reducible refine Kd.CqA ?_ _) | (with_reducible refine Kd.CqN ?_ _) | (with_reducible refine Kd.CqD ?_))); (case side2 => exact HC0.out); (case side3 => repeat (first | exact HR1.out | (with_reducible refine Kd.CqA ?_ _) | (with_reducible refine Kd.CqN ?_ _) | (with_reducible refine Kd.CqD ?_))); (case side4 => exact HC1.out); rintro e w' ⟨rfl, ⟨nd, rfl⟩⟩; refine ⟨_, rfl, ?_⟩) | ((with_reducible refine gQc (f := 5) rfl ?_); refine goesL_ (some 38) rfl rfl Try.func5 (by kernel_rfl) rfl #[.slice A0 l0.length c0] rfl (by (try simp only [List.map_toArray, List.map_cons, List.map_nil]); first | done | rfl | (simp only [List.length_drop, List.length_take]; rfl)) ?_; (with_reducible refine (spec_A2Field.calls k _ _ l0 t271 t272 _ ?side1 ?side2 A5.out).mono ?_); (case side1 => repeat (first | exact HR0.out | (with_reducible refine Kd.CqA ?_ _) | (with_reducible refine Kd.CqN ?_ _) | (with_reducible refine Kd.CqD ?_))); (case side2 => exact HC0.out); rintro e w14 ⟨rfl, hb⟩; refine ⟨_, rfl, ?_⟩; have n0_ := Aq.mk (bQT (by repeat (first | (with_reducible first | exact HB.out | apply bQA | apply bQN | apply bQ1) | exact HB.out)) hb); clear HB; have HB := n0_; clear n0_; (try clear hb); (try clear hb2); (try clear hk); (try clear hi)) | ((with_reducible refine gQd (N := 5) rfl ?_); (try (refine gate_guard (by rfl) ?_; dsimp only)); refine xQe ?hg (N := 5) ?hd (cs := #[.int .i64 0, .int .i64 0]) (t := 25) ?hr ?_; (case hd => rfl); (case hg => rfl); (case hr => first | (go_simp; done) | (go_simp; rfl)); intro gb273 hg w15 hbox hb; have n0_ := Aq.mk (bQT (by repeat (first | (with_reducible first | exact HB.out | apply bQA | apply bQN | apply bQ1) | exact HB.out)) hb); have n1_ := Aq.mk (hbox); have n2_ := Aq.mk ((by rw [hg]; exact (bQZ (by repeat (first | (with_reducible first | exact HB.out | apply bQA | apply bQN | apply bQ1) | exact HB.out))) : w.heap.size ≤ gb273)); have n3_ := Aq.mk ((by rw [hg]; exact (bQZ (by repeat (first | (with_reducible first | exact HB.out | apply bQA | apply bQN | apply bQ1) | exact HB.out))) : w.heap.size ≤ gb273)); clear HB; have HB := n0_; have BK273 := n1_; have GW273 := n2_; have GE273 := n3_; clear n0_ n1_ n2_ n3_; clear hb hbox hg; have hcz16_0 : w15.cell? ⟨gb273, 0, none⟩ = some (.int .i64 0) := (kQC BK273.out 0).trans rfl; have hcz16_1 : w15.cell? ⟨gb273, 1, none⟩ = some (.int .i64 0) := (kQC BK273.out 1).trans rfl; have hfz16_0 := kQF BK273.out 0; have hfz16_1 := kQF BK273.out 1) | ((with_reducible refine gQc (f := 6) rfl ?_); refine goesL_ (some 45) rfl rfl Try.func6 (by kernel_rfl) rfl #[.slice A1 l1.length c1, .agg #[.int .i64 t271, .int .i64 t272], .int .i64 0] rfl (by (try simp only [List.map_toArray, List.map_cons, List.map_nil]); first | done | rfl | (simp only [List.length_drop, List.length_take]; rfl)) ?_; (with_reducible refine (spec_A2Element.calls k _ _ l1 t271 t272 0 t274 _ ?side1 ?side2 A9.out).mono ?_); (case side1 => exact Kd.C_below HR1.out (by repeat (first | (with_reducible first | exact HB.out | apply bQA | apply bQN | apply bQ1 | refine bQS ?_ GE273.out) | exact HB.out))); (case side2 => exact HC1.out); rintro e w17 ⟨rfl, hb⟩; refine ⟨_, rfl, ?_⟩; have n0_ := Aq.mk (kQB (g := gb273) (o := .cells #[.int .i64 t271, .int .i64 t272] 25 (0, 0)) (by (with_reducible repeat (first | refine kQN ?_ _ | refine kQD ?_ | refine kQA ?_ _)); refine kQP (cs := #[.int .i64 t271, .int .i64 0]) ?_ 1 _ rfl; (with_reducible repeat (first | refine kQN ?_ _ | refine kQD ?_ | refine kQA ?_ _)); refine kQP (cs := #[.int .i64 0, .int .i64 0]) ?_ 0 _ rfl; (with_reducible repeat (first | refine kQN ?_ _ | refine kQD ?_ | refine kQA ?_ _)); exact BK273.out) hb); have n1_ := Aq.mk (bQT (by repeat (first | (with_reducible first | exact HB.out | apply bQA | apply bQN | apply bQ1 | refine bQS ?_ GE273.out) | exact HB.out)) hb); clear BK273; clear HB; have BK273 := n0_; have HB := n1_; clear n0_ n1_; (try clear hb); (try clear hb2); (try clear hk); (try clear hi); have hcz18_0 : w17.cell? ⟨gb273, 0, none⟩ = some (.int .i64 t271) := (kQC BK273.out 0).trans rfl; have hcz18_1 : w17.cell? ⟨gb273, 1, none⟩ = some (.int .i64 t272) := (kQC BK273.out 1).trans rfl; have hfz18_0 := kQF BK273.out 0; have hfz18_1 := kQF BK273.out 1) | ((with_reducible refine gQc (f := 6) rfl ?_); refine goesL_ (some 48) rfl rfl Try.func6 (by kernel_rfl) rfl #[.slice A1 l1.length c1, .agg #[.int .i64 t271, .int .i64 t272], .int .i64 1] rfl (by (try simp only [List.map_toArray, List.map_cons, List.map_nil]); first | done | rfl | (simp only [List.length_drop, List.length_take]; rfl)) ?_; (with_reducible refine (spec_A2Element.calls k _ _ l1 t271 t272 1 t275 _ ?side1 ?side2 A10.out).mono ?_); (case side1 => repeat (first | exact (Kd.C_below HR1.out HB.out) | (with_reducible refine Kd.CqA ?_ _) | (with_reducible refine Kd.CqN ?_ _) | (with_reducible refine Kd.CqD ?_))); (case side2 => exact HC1.out); rintro e w19 ⟨rfl, hb⟩; refine ⟨_, rfl, ?_⟩; have n0_ := Aq.mk (kQB (g := gb273) (o := .cells #[.int .i64 t271, .int .i64 t272] 25 (0, 0)) (by (with_reducible repeat (first | refine kQN ?_ _ | refine kQD ?_ | refine kQA ?_ _)); exact BK273.out) hb); have n1_ := Aq.mk (bQT (by repeat (first | (with_reducible first | exact HB.out | apply bQA | apply bQN | apply bQ1 | refine bQS ?_ GE273.out) | exact HB.out)) hb); clear BK273; clear HB; have BK273 := n0_; have HB := n1_; clear n0_ n1_; (try clear hb); (try clear hb2); (try clear hk); (try clear hi); have hcz20_0 : w19.cell? ⟨gb273, 0, none⟩ = some (.int .i64 t271) := (kQC BK273.out 0).trans rfl; have hcz20_1 : w19.cell? ⟨gb273, 1, none⟩ = some (.int .i64 t272) := (kQC BK273.out 1).trans rfl; have hfz20_0 := kQF BK273.out 0; have hfz20_1 := kQF BK273.out 1) | ((with_reducible refine gQc (f := 7) rfl ?_); refine goesL_ (some 52) rfl rfl Try.func7 (by kernel_rfl) rfl #[.agg #[.int .i64 t271, .int .i64 t272], .int .i64 t274] rfl (by (try simp only [List.map_toArray, List.map_cons, List.map_nil]); first | done | rfl | (simp only [List.length_drop, List.length_take]; rfl)) ?_; (with_reducible refine (impl_ConjugatesIn.calls k t271 t272 t274 t276 t279 _ A11.out).mono ?_); rintro e w21 ⟨v277, rfl, ho0, hb⟩; refine ⟨_, rfl, ?_⟩; have n0_ := Aq.mk (Kd.R_lower ho0 (bQZ (by repeat (first | (with_reducible first | exact HB.out | apply bQA | apply bQN | apply bQ1 | refine bQS ?_ GE273.out) | exact HB.out)))); have n1_ := Aq.mk (kQB (g := gb273) (o := .cells #[.int .i64 t271, .int .i64 t272] 25 (0, 0)) (by (with_reducible repeat (first | refine kQN ?_ _ | refine kQD ?_ | refine kQA ?_ _)); exact BK273.out) hb); have n2_ := Aq.mk (bQT (by repeat (first | (with_reducible first | exact HB.out | apply bQA | apply bQN | apply bQ1 | refine bQS ?_ GE273.out) | exact HB.out)) hb); clear BK273; clear HB; have HO278 := n0_; have BK273 := n1_; have HB := n2_; clear n0_ n1_ n2_; (try clear hb); (try clear hb2); (try clear hk); (try clear hi); (try clear ho0); have hcz22_0 : w21.cell? ⟨gb273, 0, none⟩ = some (.int .i64 t271) := (kQC BK273.out 0).trans rfl; have hcz22_1 : w21.cell? ⟨gb273, 1, none⟩ = some (.int .i64 t272) := (kQC BK273.out 1).trans rfl; have hfz22_0 := kQF BK273.out 0; have hfz22_1 := kQF BK273.out 1) | ((with_reducible refine gQc (f := 8) rfl ?_); refine goesL_ (some 58) rfl rfl Try.func8 (by kernel_rfl) rfl #[.agg #[.int .i64 t271, .int .i64 t272], .int .i64 t274] rfl (by (try simp only [List.map_toArray, List.map_cons, List.map_nil]); first | done | rfl | (simp only [List.length_drop, List.length_take]; rfl)) ?_; (with_reducible refine (impl_MinimalPoly.calls k t271 t272 t274 t280 t281 _ A12.out).mono ?_); rintro e w23 ⟨rfl, hb⟩; refine ⟨_, rfl, ?_⟩; have n0_ := Aq.mk (Kd.R_below (by (with_reducible repeat (first | apply Kd.RqA | apply Kd.RqN | apply Kd.RqD)); exact HO278.out) hb); have n1_ := Aq.mk (kQB (g := gb273) (o := .cells #[.int .i64 t271, .int .i64 t272] 25 (0, 0)) (by (with_reducible repeat (first | refine kQN ?_ _ | refine kQD ?_ | refine kQA ?_ _)); exact BK273.out) hb); have n2_ := Aq.mk (bQT (by repeat (first | (with_reducible first | exact HB.out | apply bQA | apply bQN | apply bQ1 | refine bQS ?_ GE273.out) | exact HB.out)) hb); clear HO278; clear BK273; clear HB; have HO278 := n0_; have BK273 := n1_; have HB := n2_; clear n0_ n1_ n2_; (try clear hb); (try clear hb2); (try clear hk); (try clear hi)))
   (try simp only [Act.put, qSa, qSb, qSc])
   go_cut [97] (fun v97 wc => ∃ (kq : Nat) (x97_12 : Bool), v97 = .bool x97_12 ∧ Aq (laws_FnConjugates.j0 kq ji8 t274 t275 t276 t280 x97_12 t271 t272 = some r) ∧ Aq (kq ≤ k) ∧ Aq (Kd.R (Kd.int .i64) 2 wc w.heap.size (fun _ => True) v277 t276) ∧ Aq (wc.heap[gb273]? = some (.cells #[.int .i64 t271, .int .i64 t272] 25 (0, 0))) ∧ Aq (Below w.heap.size w wc))
   case first =>
    have H := HC13.out
    clear HC13
    by_cases c24 : t279 = 0
    ·rw [if_pos c24] at H
     have c24b0 : (t279 == 0) = true := beq_iff_eq.mpr c24
     have c24b1 : (t279 != 0) = false := bne_eq_false_iff_eq.mpr c24
     clear c24
     (first | rw [c24b0] | (simp only [i64_w, i32_w]; rw [c24b0]) | skip)
     by_cases c25 : t281 = 0
     ·rw [if_pos c25] at H
      have c25b0 : (t281 == 0) = true := beq_iff_eq.mpr c25
      have c25b1 : (t281 != 0) = false := bne_eq_false_iff_eq.mpr c25
      clear c25
      by_cases c26 : (t276.length : Int) < 1
      ·rw [if_pos c26] at H
       have c26b0 : decide ((t276.length : Int) < 1) = true := decide_eq_true c26
       have c26b1 : decide (t276.length < 1) = true := decide_eq_true (by omega)
       clear c26
       have H' := Aq.mk H
       clear H
       obtain ⟨Ao27, co27, eo27⟩ := Kd.R_slice HO278.out
       subst eo27
       go_wp2
       go_meet
       case rel => exact ⟨_, (true), (by first | rfl | (simp; done) | (simp [*]; done)), H', ⟨by first | omega | exact Nat.le_refl _⟩, ⟨by (with_reducible repeat (first | apply Kd.RqA | apply Kd.RqN | apply Kd.RqD)); exact HO278.out⟩, ⟨by (with_reducible repeat (first | refine kQN ?_ _ | refine kQD ?_ | refine kQA ?_ _)); exact BK273.out⟩, ⟨by repeat (first | (with_reducible first | exact HB.out | apply bQA | apply bQN | apply bQ1 | refine bQS ?_ GE273.out) | exact HB.out)⟩⟩
      ·rw [if_neg c26] at H
       have c26b0 : decide ((t276.length : Int) < 1) = false := decide_eq_false c26
       have c26b1 : decide (t276.length < 1) = false := decide_eq_false (by omega)
       clear c26
       by_cases c28 : 0 < (t276.length : Int)
       ·rw [if_pos c28] at H
        have c28b0 : decide (0 < (t276.length : Int)) = true := decide_eq_true c28
        have c28b1 : decide (0 < t276.length) = true := decide_eq_true (by omega)
        clear c28
        by_cases c29 : (rd t276 0) = t274
        ·rw [if_pos c29] at H
         have c29b0 : ((rd t276 0) == t274) = true := beq_iff_eq.mpr c29
         have c29b1 : ((rd t276 0) != t274) = false := bne_eq_false_iff_eq.mpr c29
         clear c29
         replace H := Option.bind_eq_some_iff.mp H
         obtain ⟨t283, A300, H⟩ := H
         replace H : (if t283 = true then (if (t276.length : Int) = 0 then (none) else (if (Int.tmod t271 (t276.length : Int)) = 0 then ((impl_IsIrreducible.f k t280).bind fun t284 => (laws_FnConjugates.j0 k ji8 t274 t275 t276 t280 (!t284) t271 t272)) else (laws_FnConjugates.j0 k ji8 t274 t275 t276 t280 true t271 t272))) else (laws_FnConjugates.j0 k ji8 t274 t275 t276 t280 true t271 t272)) = some r := H
         have A30 := Aq.mk A300
         clear A300
         by_cases c31 : t283 = true
         ·subst c31
          have H1 : (if (t276.length : Int) = 0 then (none) else (if (Int.tmod t271 (t276.length : Int)) = 0 then ((impl_IsIrreducible.f k t280).bind fun t284 => (laws_FnConjugates.j0 k ji8 t274 t275 t276 t280 (!t284) t271 t272)) else (laws_FnConjugates.j0 k ji8 t274 t275 t276 t280 true t271 t272))) = some r := by rw [if_pos rfl] at H; exact H
          clear H
          have H := H1
          clear H1
          by_cases c32 : (t276.length : Int) = 0
          ·rw [if_pos c32] at H
           exact absurd H (by simp)
          ·rw [if_neg c32] at H
           have c32b0 : ((t276.length : Int) == 0) = false := beq_eq_false_iff_ne.mpr c32
           have c32b1 : ((t276.length : Int) != 0) = true := bne_iff_ne.mpr c32
           have c32b2 : ¬ (t276 = []) := fun h_ => c32 (by rw [h_]; rfl)
           by_cases c33 : (Int.tmod t271 (t276.length : Int)) = 0
           ·rw [if_pos c33] at H
            have c33b0 : ((Int.tmod t271 (t276.length : Int)) == 0) = true := beq_iff_eq.mpr c33
            have c33b1 : ((Int.tmod t271 (t276.length : Int)) != 0) = false := bne_eq_false_iff_eq.mpr c33
            clear c33
            replace H := Option.bind_eq_some_iff.mp H
            obtain ⟨t284, A340, H⟩ := H
            replace H : (laws_FnConjugates.j0 k ji8 t274 t275 t276 t280 (!t284) t271 t272) = some r := H
            have A34 := Aq.mk A340
            clear A340
            have H' := Aq.mk H
            clear H
            obtain ⟨Ao35, co35, eo35⟩ := Kd.R_slice HO278.out
            subst eo35
            have p282 : 0 ≤ (0 : Int) := (by omega)
            have q282 : 0 < (t276.length : Int) := of_decide_eq_true (by first | (with_reducible assumption) | assumption)
            obtain ⟨ad282, e282, hx282_0⟩ := Kd.at_int (Kd.R_reads' HO278.out).2.2 0 p282 q282
            cases e282
            have qi282 : (0 < t276.length) = True := eq_true (by omega)
            (try rw [show ((0 : Int)).toNat = 0 from rfl] at hx282_0)
            (try rw [Addr.add_zero'] at hx282_0)
            replace p282 := eq_true p282
            replace q282 := eq_true q282
            go_wp2_with (first | (go_at_call 9; (with_reducible refine (laws_a2Below.calls k _ _ t276 ji8 true _ ?side1 ?side2 A30.out).mono ?_); (case side1 => repeat (first | exact (Kd.R_reads' HO278.out).2.2 | (with_reducible refine Kd.CqA ?_ _) | (with_reducible refine Kd.CqN ?_ _) | (with_reducible refine Kd.CqD ?_))); (case side2 => exact (Kd.R_reads' HO278.out).2.1); rintro e w' ⟨rfl, ⟨nd, rfl⟩⟩; have hcz36_0 : w23.cell? ⟨gb273, 0, none⟩ = some (.int .i64 t271) := (kQC BK273.out 0).trans rfl; have hcz36_1 : w23.cell? ⟨gb273, 1, none⟩ = some (.int .i64 t272) := (kQC BK273.out 1).trans rfl; have hfz36_0 := kQF BK273.out 0; have hfz36_1 := kQF BK273.out 1) | (go_at_call 10; (with_reducible refine (impl_IsIrreducible.calls k t280 t284 _ A34.out).mono ?_); rintro e w' ⟨rfl, ⟨nd, rfl⟩⟩))
            go_meet
            case rel => exact ⟨_, (!t284), (by first | rfl | (simp; done) | (simp [*]; done)), H', ⟨by first | omega | exact Nat.le_refl _⟩, ⟨by (with_reducible repeat (first | apply Kd.RqA | apply Kd.RqN | apply Kd.RqD)); exact HO278.out⟩, ⟨by (with_reducible repeat (first | refine kQN ?_ _ | refine kQD ?_ | refine kQA ?_ _)); exact BK273.out⟩, ⟨by repeat (first | (with_reducible first | exact HB.out | apply bQA | apply bQN | apply bQ1 | refine bQS ?_ GE273.out) | exact HB.out)⟩⟩
           ·rw [if_neg c33] at H
            have c33b0 : ((Int.tmod t271 (t276.length : Int)) == 0) = false := beq_eq_false_iff_ne.mpr c33
            have c33b1 : ((Int.tmod t271 (t276.length : Int)) != 0) = true := bne_iff_ne.mpr c33
            have H' := Aq.mk H
            clear H
            obtain ⟨Ao37, co37, eo37⟩ := Kd.R_slice HO278.out
            subst eo37
            have p282 : 0 ≤ (0 : Int) := (by omega)
            have q282 : 0 < (t276.length : Int) := of_decide_eq_true (by first | (with_reducible assumption) | assumption)
            obtain ⟨ad282, e282, hx282_0⟩ := Kd.at_int (Kd.R_reads' HO278.out).2.2 0 p282 q282
            cases e282
            have qi282 : (0 < t276.length) = True := eq_true (by omega)
            (try rw [show ((0 : Int)).toNat = 0 from rfl] at hx282_0)
            (try rw [Addr.add_zero'] at hx282_0)
            replace p282 := eq_true p282
            replace q282 := eq_true q282
            go_wp2_with (first | (go_at_call 9; (with_reducible refine (laws_a2Below.calls k _ _ t276 ji8 true _ ?side1 ?side2 A30.out).mono ?_); (case side1 => repeat (first | exact (Kd.R_reads' HO278.out).2.2 | (with_reducible refine Kd.CqA ?_ _) | (with_reducible refine Kd.CqN ?_ _) | (with_reducible refine Kd.CqD ?_))); (case side2 => exact (Kd.R_reads' HO278.out).2.1); rintro e w' ⟨rfl, ⟨nd, rfl⟩⟩; have hcz38_0 : w23.cell? ⟨gb273, 0, none⟩ = some (.int .i64 t271) := (kQC BK273.out 0).trans rfl; have hcz38_1 : w23.cell? ⟨gb273, 1, none⟩ = some (.int .i64 t272) := (kQC BK273.out 1).trans rfl; have hfz38_0 := kQF BK273.out 0; have hfz38_1 := kQF BK273.out 1))
            go_meet
            case rel => exact ⟨_, (true), (by first | rfl | (simp; done) | (simp [*]; done)), H', ⟨by first | omega | exact Nat.le_refl _⟩, ⟨by (with_reducible repeat (first | apply Kd.RqA | apply Kd.RqN | apply Kd.RqD)); exact HO278.out⟩, ⟨by (with_reducible repeat (first | refine kQN ?_ _ | refine kQD ?_ | refine kQA ?_ _)); exact BK273.out⟩, ⟨by repeat (first | (with_reducible first | exact HB.out | apply bQA | apply bQN | apply bQ1 | refine bQS ?_ GE273.out) | exact HB.out)⟩⟩
         ·replace c31 := Bool.eq_false_iff.mpr c31
          subst c31
          have H1 : (laws_FnConjugates.j0 k ji8 t274 t275 t276 t280 true t271 t272) = some r := by rw [if_neg (show ¬ (false = true) by decide)] at H; exact H
          clear H
          have H := H1
          clear H1
          have H' := Aq.mk H
          clear H
          obtain ⟨Ao39, co39, eo39⟩ := Kd.R_slice HO278.out
          subst eo39
          have p282 : 0 ≤ (0 : Int) := (by omega)
          have q282 : 0 < (t276.length : Int) := of_decide_eq_true (by first | (with_reducible assumption) | assumption)
          obtain ⟨ad282, e282, hx282_0⟩ := Kd.at_int (Kd.R_reads' HO278.out).2.2 0 p282 q282
          cases e282
          have qi282 : (0 < t276.length) = True := eq_true (by omega)
          (try rw [show ((0 : Int)).toNat = 0 from rfl] at hx282_0)
          (try rw [Addr.add_zero'] at hx282_0)
          replace p282 := eq_true p282
          replace q282 := eq_true q282
          go_wp2_with (first | (go_at_call 9; (with_reducible refine (laws_a2Below.calls k _ _ t276 ji8 false _ ?side1 ?side2 A30.out).mono ?_); (case side1 => repeat (first | exact (Kd.R_reads' HO278.out).2.2 | (with_reducible refine Kd.CqA ?_ _) | (with_reducible refine Kd.CqN ?_ _) | (with_reducible refine Kd.CqD ?_))); (case side2 => exact (Kd.R_reads' HO278.out).2.1); rintro e w' ⟨rfl, ⟨nd, rfl⟩⟩))
          go_meet
          case rel => exact ⟨_, (true), (by first | rfl | (simp; done) | (simp [*]; done)), H', ⟨by first | omega | exact Nat.le_refl _⟩, ⟨by (with_reducible repeat (first | apply Kd.RqA | apply Kd.RqN | apply Kd.RqD)); exact HO278.out⟩, ⟨by (with_reducible repeat (first | refine kQN ?_ _ | refine kQD ?_ | refine kQA ?_ _)); exact BK273.out⟩, ⟨by repeat (first | (with_reducible first | exact HB.out | apply bQA | apply bQN | apply bQ1 | refine bQS ?_ GE273.out) | exact HB.out)⟩⟩
        ·rw [if_neg c29] at H
         have c29b0 : ((rd t276 0) == t274) = false := beq_eq_false_iff_ne.mpr c29
         have c29b1 : ((rd t276 0) != t274) = true := bne_iff_ne.mpr c29
         have H' := Aq.mk H
         clear H
         obtain ⟨Ao40, co40, eo40⟩ := Kd.R_slice HO278.out
         subst eo40
         have p282 : 0 ≤ (0 : Int) := (by omega)
         have q282 : 0 < (t276.length : Int) := of_decide_eq_true (by first | (with_reducible assumption) | assumption)
         obtain ⟨ad282, e282, hx282_0⟩ := Kd.at_int (Kd.R_reads' HO278.out).2.2 0 p282 q282
         cases e282
         have qi282 : (0 < t276.length) = True := eq_true (by omega)
         (try rw [show ((0 : Int)).toNat = 0 from rfl] at hx282_0)
         (try rw [Addr.add_zero'] at hx282_0)
         replace p282 := eq_true p282
         replace q282 := eq_true q282
         go_wp2
         go_meet
         case rel => exact ⟨_, (true), (by first | rfl | (simp; done) | (simp [*]; done)), H', ⟨by first | omega | exact Nat.le_refl _⟩, ⟨by (with_reducible repeat (first | apply Kd.RqA | apply Kd.RqN | apply Kd.RqD)); exact HO278.out⟩, ⟨by (with_reducible repeat (first | refine kQN ?_ _ | refine kQD ?_ | refine kQA ?_ _)); exact BK273.out⟩, ⟨by repeat (first | (with_reducible first | exact HB.out | apply bQA | apply bQN | apply bQ1 | refine bQS ?_ GE273.out) | exact HB.out)⟩⟩
       ·rw [if_neg c28] at H
        exact absurd H (by simp)
     ·rw [if_neg c25] at H
      have c25b0 : (t281 == 0) = false := beq_eq_false_iff_ne.mpr c25
      have c25b1 : (t281 != 0) = true := bne_iff_ne.mpr c25
      have H' := Aq.mk H
      clear H
      go_wp2
      go_meet
      case rel => exact ⟨_, (true), (by first | rfl | (simp; done) | (simp [*]; done)), H', ⟨by first | omega | exact Nat.le_refl _⟩, ⟨by (with_reducible repeat (first | apply Kd.RqA | apply Kd.RqN | apply Kd.RqD)); exact HO278.out⟩, ⟨by (with_reducible repeat (first | refine kQN ?_ _ | refine kQD ?_ | refine kQA ?_ _)); exact BK273.out⟩, ⟨by repeat (first | (with_reducible first | exact HB.out | apply bQA | apply bQN | apply bQ1 | refine bQS ?_ GE273.out) | exact HB.out)⟩⟩
    ·rw [if_neg c24] at H
     have c24b0 : (t279 == 0) = false := beq_eq_false_iff_ne.mpr c24
     have c24b1 : (t279 != 0) = true := bne_iff_ne.mpr c24
     (first | rw [c24b0] | (simp only [i64_w, i32_w]; rw [c24b0]) | skip)
     have H' := Aq.mk H
     clear H
     go_wp2
     go_meet
     case rel => exact ⟨_, (true), (by first | rfl | (simp; done) | (simp [*]; done)), H', ⟨by first | omega | exact Nat.le_refl _⟩, ⟨by (with_reducible repeat (first | apply Kd.RqA | apply Kd.RqN | apply Kd.RqD)); exact HO278.out⟩, ⟨by (with_reducible repeat (first | refine kQN ?_ _ | refine kQD ?_ | refine kQA ?_ _)); exact BK273.out⟩, ⟨by repeat (first | (with_reducible first | exact HB.out | apply bQA | apply bQN | apply bQ1 | refine bQS ?_ GE273.out) | exact HB.out)⟩⟩
   case rest =>
    rename_i z0_0 z0_1 z0_2 z0_3 z0_4 z0_5
    revert k A0 c0 l0 A1 c1 l1 r w hu25 HR0 HC0 HR1 HC1 A3 t271 t272 A5 ji6 hji6 c7b0 c7b1 ji8 hji8 hji8_ hji8z hji8u hji8v hji8y hji8x t274 A9 t275 A10 t276 t279 A11 t280 t281 A12 HC13 z0_0 nd z0_1 w14 gb273 w15 GW273 GE273 hcz16_0 hcz16_1 hfz16_0 hfz16_1 w17 hcz18_0 hcz18_1 hfz18_0 hfz18_1 w19 hcz20_0 hcz20_1 hfz20_0 hfz20_1 w21 v277 hcz22_0 hcz22_1 hfz22_0 hfz22_1 w23 HO278 BK273 HB z0_2 z0_3 z0_4 z0_5 wc u34 u35 u36 u37 u38 u39 u40 u41 u42 u43 u44 u45 u46 u47 u48 u49 u50 u51 u52 u53 u54 u55 u56 u57 u58 u59 u60 u61 u62 u63 u64 u65 u66 u67 u68 u69 u70 u71 u72 u73 u74 u75 u76 u77 u78 u79 u80 u81 u82 u83 u84 u85 u86 u87 u88 u89 u90 u91 u92 u93 u94 u95 u96 u97 u98 u99 u100 u101 u102 u103 u104 u105 u106 u107 u108 u109 u110 u111 u112 u113 u114 u115 u116 u117 u118 u119 u120 u121 u122 u123 u124 u125 u126 u127 u128 u129 u130 u131 u132 u133 u134 u135 u136 u137 u138 u139 u140 u141 u142 u143 u144 u145 u146 u147 u148 u149 u150 u151 u152 u153 u154 u155 u156 u157 u158 u159 u160 u161 u162 u163 u164 u165 u166 u167 u168 u169 u170 u171 u172 u173 u174 u175 u176 u177 u178 u179 u180 u181 u182 u183 u184 u185 u186 u187 u188 u189 u190 u191 u192 u193 u194 u195 u196 u197 u198 u199 u200 u201 u202 u203 u204 u205 u206 u207 u208 u209 u210 u211 u212 u213 u214 u215 u216 u217 u218 u219 u220 u221 u222 u223 u224 u225 u226 u227 u228 u229 u230 u231 u232 u233 u234 u235 u236 u237 u238 u239 u240 u241 u242 u243 u244 u245 u246 u247 u248 u249 u250 u251 u252 u253 u254 u255 hcut
    exact hG_.out
  ·rw [if_neg c7] at H
   exact absurd H (by simp)
end Go.Proofs.Ytkedpfkdnhameaa.P
