/- What the functions of the law FnExactLiftWord tell without rounds, and its pure statement. -/
import Derived.Test.YtngiionckbmkmaaPx0
import Derived.Test.YtngiionckbmkmaaPx1
import Derived.Test.YtngiionckbmkmaaPx2
import Derived.Test.YtngiionckbmkmaaPx6
import Derived.Test.YtngiionckbmkmaaPx14
import Derived.Test.YtngiionckbmkmaaPx16
import Derived.Test.YtngiionckbmkmaaPx3
import Derived.Test.YtngiionckbmkmaaPx5
import Derived.Test.YtngiionckbmkmaaPx11
import Derived.Test.YtngiionckbmkmaaPx25
import Derived.Test.YtngiionckbmkmaaPx26
import Derived.Test.YtngiionckbmkmaaPx39
import Derived.Test.YtngiionckbmkmaaPx62
import Derived.ProofKit
section
namespace Go.Proofs.Ytngiionckbmkmaa.P
open Go.RowKit Go.Proofs.YtngiionckbmkmaaW.PrintWords Go.Proofs.YtngiionckbmkmaaW.PrintLast Go.Proofs.YtngiionckbmkmaaW.PrintMore
def IsLim {α : Type} (g : Nat → Option α) (v : Option α) : Prop := (∀ k, LeO (g k) (g (k + 1))) ∧ ∀ r, v = some r ↔ ∃ k, g k = some r
theorem leO_le {α : Type} {g : Nat → Option α} (h : ∀ k, LeO (g k) (g (k + 1))) {j k : Nat} (hjk : j ≤ k) : LeO (g j) (g k) := by
  induction hjk with
  | refl => exact fun _ e => e
  | step _ ih => exact fun r e => h _ r (ih r e)
open Classical in
noncomputable def lim {α : Type} (g : Nat → Option α) : Option α := if h : ∃ r, ∃ k, g k = some r then some h.choose else none
theorem lim_spec {α : Type} {g : Nat → Option α} (h : ∀ k, LeO (g k) (g (k + 1))) : IsLim g (lim g) := by
  refine ⟨h, fun r => ?_⟩
  unfold lim
  by_cases hx : ∃ r, ∃ k, g k = some r
  · rw [dif_pos hx]
    obtain ⟨k, hk⟩ := hx.choose_spec
    constructor
    · intro e; exact ⟨k, by rw [hk]; exact e⟩
    · rintro ⟨j, hj⟩
      have a := leO_le h (Nat.le_max_left j k) _ hj
      have b := leO_le h (Nat.le_max_right j k) _ hk
      rw [a] at b; exact b.symm
  · rw [dif_neg hx]
    constructor
    · intro e; cases e
    · rintro ⟨k, hk⟩; exact absurd ⟨r, k, hk⟩ hx
theorem IsLim.unique {α : Type} {g : Nat → Option α} {v v' : Option α} (h : IsLim g v) (h' : IsLim g v') : v = v' :=
  Option.ext fun r => (h.2 r).trans (h'.2 r).symm
theorem IsLim.const {α : Type} (v : Option α) : IsLim (fun _ => v) v := ⟨fun _ _ e => e, fun _ => ⟨fun e => ⟨0, e⟩, fun ⟨_, e⟩ => e⟩⟩
theorem IsLim.ite {α : Type} {c : Prop} [Decidable c] {g g' : Nat → Option α} {v v' : Option α} (h : IsLim g v) (h' : IsLim g' v') :
    IsLim (fun k => if c then g k else g' k) (if c then v else v') := by
  by_cases hc : c
  · simp only [if_pos hc]; exact h
  · simp only [if_neg hc]; exact h'
theorem IsLim.bind {α β : Type} {g : Nat → Option α} {v : Option α} {q : Nat → α → Option β} {w : α → Option β}
    (h : IsLim g v) (hq : ∀ x, IsLim (fun k => q k x) (w x)) : IsLim (fun k => (g k).bind (q k)) (v.bind w) := by
  refine ⟨fun k r e => ?_, fun r => ?_⟩
  · obtain ⟨x, hx, hr⟩ := Option.bind_eq_some_iff.mp e
    exact Option.bind_eq_some_iff.mpr ⟨x, h.1 k x hx, (hq x).1 k r hr⟩
  · constructor
    · intro e
      obtain ⟨x, hx, hr⟩ := Option.bind_eq_some_iff.mp e
      obtain ⟨j, hj⟩ := (h.2 x).mp hx
      obtain ⟨k, hk⟩ := ((hq x).2 r).mp hr
      exact ⟨max j k, Option.bind_eq_some_iff.mpr ⟨x, leO_le h.1 (Nat.le_max_left j k) _ hj, leO_le (hq x).1 (Nat.le_max_right j k) _ hk⟩⟩
    · rintro ⟨k, e⟩
      obtain ⟨x, hx, hr⟩ := Option.bind_eq_some_iff.mp e
      exact Option.bind_eq_some_iff.mpr ⟨x, (h.2 x).mpr ⟨k, hx⟩, ((hq x).2 r).mpr ⟨k, hr⟩⟩
theorem IsLim.shift {α : Type} {g : Nat → Option α} {v : Option α} (h0 : g 0 = none) (h : IsLim (fun k => g (k + 1)) v) : IsLim g v := by
  refine ⟨fun k => ?_, fun r => ?_⟩
  · cases k with
    | zero => intro r e; rw [h0] at e; cases e
    | succ k => exact h.1 k
  · rw [h.2 r]
    constructor
    · rintro ⟨k, e⟩; exact ⟨k + 1, e⟩
    · rintro ⟨k, e⟩
      cases k with
      | zero => rw [h0] at e; cases e
      | succ k => exact ⟨k, e⟩
theorem IsLim.some_ {α : Type} {g : Nat → Option α} {v : Option α} {r : α} (h : IsLim g v) (e : v = some r) : ∃ k, g k = some r := (h.2 r).mp e
end Go.Proofs.Ytngiionckbmkmaa.P
end
section
namespace Go.Proofs.Ytngiionckbmkmaa.P
open Go.RowKit Go.Proofs.YtngiionckbmkmaaW.PrintWords Go.Proofs.YtngiionckbmkmaaW.PrintLast Go.Proofs.YtngiionckbmkmaaW.PrintMore
set_option linter.unusedVariables false
noncomputable def spec_l01Degree.l0d (x0 : Int) (x3 : Int) : Option (Int) := lim (fun k => spec_l01Degree.l0 k x0 x3)
theorem spec_l01Degree.l0lim (x0 : Int) (x3 : Int) : IsLim (fun k => spec_l01Degree.l0 k x0 x3) (spec_l01Degree.l0d x0 x3) := lim_spec (fun k => (spec_l01Degree.mono_l k) x0 x3)
theorem spec_l01Degree.l0d_eq (x0 : Int) (x3 : Int) : spec_l01Degree.l0d x0 x3 = if x0 > 0 then (spec_l01Degree.l0d (wrap64 (Int.tdiv x0 2)) (wrap64 (x3 + 1))) else (some x3) := by
  refine IsLim.unique (spec_l01Degree.l0lim _ _) ?_
  refine IsLim.shift (by rfl) ?_
  show IsLim (fun k => if x0 > 0 then (spec_l01Degree.l0 k (wrap64 (Int.tdiv x0 2)) (wrap64 (x3 + 1))) else (some x3)) _
  repeat' (first | exact IsLim.const _ | refine IsLim.ite ?_ ?_ | refine IsLim.bind ?_ (fun _ => ?_) | exact spec_l01Degree.l0lim ..)
noncomputable def spec_l01Degree.d (a0 : Int) : Option (Int) := lim (fun k => spec_l01Degree.f k a0)
theorem spec_l01Degree.lim (a0 : Int) : IsLim (fun k => spec_l01Degree.f k a0) (spec_l01Degree.d a0) := lim_spec (fun k => spec_l01Degree.mono a0 k)
theorem spec_l01Degree.d_eq (a0 : Int) : spec_l01Degree.d a0 = spec_l01Degree.l0d a0 (-1) := by
  refine IsLim.unique (spec_l01Degree.lim _) ?_
  unfold spec_l01Degree.f
  repeat' (first | exact IsLim.const _ | refine IsLim.ite ?_ ?_ | refine IsLim.bind ?_ (fun _ => ?_) | exact spec_l01Degree.l0lim ..)
noncomputable def spec_l01Rest.l0d (x0 : Int) (x1 : Int) (x5 : Int) : Option (Int) := lim (fun k => spec_l01Rest.l0 k x0 x1 x5)
theorem spec_l01Rest.l0lim (x0 : Int) (x1 : Int) (x5 : Int) : IsLim (fun k => spec_l01Rest.l0 k x0 x1 x5) (spec_l01Rest.l0d x0 x1 x5) := lim_spec (fun k => (spec_l01Rest.mono_l k) x0 x1 x5)
theorem spec_l01Rest.l0d_eq (x0 : Int) (x1 : Int) (x5 : Int) : spec_l01Rest.l0d x0 x1 x5 = (spec_l01Degree.d x0).bind fun t102 => (if t102 ≥ x5 then ((spec_l01Degree.d x0).bind fun t103 => (if 0 ≤ (IntKind.u64.wrap (wrap64 (t103 - x5))) then (spec_l01Rest.l0d (Go.bits .xor .i64 x0 (shl .i64 x1 (IntKind.u64.wrap (wrap64 (t103 - x5))))) x1 x5) else (none))) else (some x0)) := by
  refine IsLim.unique (spec_l01Rest.l0lim _ _ _) ?_
  refine IsLim.shift (by rfl) ?_
  show IsLim (fun k => (spec_l01Degree.f k x0).bind fun t102 => (if t102 ≥ x5 then ((spec_l01Degree.f k x0).bind fun t103 => (if 0 ≤ (IntKind.u64.wrap (wrap64 (t103 - x5))) then (spec_l01Rest.l0 k (Go.bits .xor .i64 x0 (shl .i64 x1 (IntKind.u64.wrap (wrap64 (t103 - x5))))) x1 x5) else (none))) else (some x0))) _
  repeat' (first | exact IsLim.const _ | refine IsLim.ite ?_ ?_ | refine IsLim.bind ?_ (fun _ => ?_) | exact spec_l01Degree.lim .. | exact spec_l01Rest.l0lim ..)
noncomputable def spec_l01Rest.d (a0 : Int) (a1 : Int) : Option (Int) := lim (fun k => spec_l01Rest.f k a0 a1)
theorem spec_l01Rest.lim (a0 : Int) (a1 : Int) : IsLim (fun k => spec_l01Rest.f k a0 a1) (spec_l01Rest.d a0 a1) := lim_spec (fun k => spec_l01Rest.mono a0 a1 k)
theorem spec_l01Rest.d_eq (a0 : Int) (a1 : Int) : spec_l01Rest.d a0 a1 = (spec_l01Degree.d a1).bind fun t101 => (spec_l01Rest.l0d a0 a1 t101) := by
  refine IsLim.unique (spec_l01Rest.lim _ _) ?_
  unfold spec_l01Rest.f
  repeat' (first | exact IsLim.const _ | refine IsLim.ite ?_ ?_ | refine IsLim.bind ?_ (fun _ => ?_) | exact spec_l01Degree.lim .. | exact spec_l01Rest.l0lim ..)
noncomputable def spec_l01Irreducible.j0d (x0 : Int) (x3 : Int) (x12 : Bool) : Option (Bool) := lim (fun k => spec_l01Irreducible.j0 k x0 x3 x12)
theorem spec_l01Irreducible.j0lim (x0 : Int) (x3 : Int) (x12 : Bool) : IsLim (fun k => spec_l01Irreducible.j0 k x0 x3 x12) (spec_l01Irreducible.j0d x0 x3 x12) := lim_spec (fun k => (spec_l01Irreducible.mono_l k).1 x0 x3 x12)
noncomputable def spec_l01Irreducible.l0d (x0 : Int) (x3 : Int) (x4 : Int) : Option (Bool) := lim (fun k => spec_l01Irreducible.l0 k x0 x3 x4)
theorem spec_l01Irreducible.l0lim (x0 : Int) (x3 : Int) (x4 : Int) : IsLim (fun k => spec_l01Irreducible.l0 k x0 x3 x4) (spec_l01Irreducible.l0d x0 x3 x4) := lim_spec (fun k => (spec_l01Irreducible.mono_l k).2 x0 x3 x4)
theorem spec_l01Irreducible.j0d_eq (x0 : Int) (x3 : Int) (x12 : Bool) : spec_l01Irreducible.j0d x0 x3 x12 = if x12 = true then (some false) else (spec_l01Irreducible.l0d x0 x3 2) := by
  refine IsLim.unique (spec_l01Irreducible.j0lim _ _ _) ?_
  refine IsLim.shift (by rfl) ?_
  show IsLim (fun k => if x12 = true then (some false) else (spec_l01Irreducible.l0 k x0 x3 2)) _
  repeat' (first | exact IsLim.const _ | refine IsLim.ite ?_ ?_ | refine IsLim.bind ?_ (fun _ => ?_) | exact spec_l01Irreducible.l0lim ..)
theorem spec_l01Irreducible.l0d_eq (x0 : Int) (x3 : Int) (x4 : Int) : spec_l01Irreducible.l0d x0 x3 x4 = (spec_l01Degree.d x4).bind fun t105 => (if t105 < x3 then ((spec_l01Rest.d x0 x4).bind fun t106 => (if t106 = 0 then (some false) else (spec_l01Irreducible.l0d x0 x3 (wrap64 (x4 + 1))))) else (some true)) := by
  refine IsLim.unique (spec_l01Irreducible.l0lim _ _ _) ?_
  refine IsLim.shift (by rfl) ?_
  show IsLim (fun k => (spec_l01Degree.f k x4).bind fun t105 => (if t105 < x3 then ((spec_l01Rest.f k x0 x4).bind fun t106 => (if t106 = 0 then (some false) else (spec_l01Irreducible.l0 k x0 x3 (wrap64 (x4 + 1))))) else (some true))) _
  repeat' (first | exact IsLim.const _ | refine IsLim.ite ?_ ?_ | refine IsLim.bind ?_ (fun _ => ?_) | exact spec_l01Degree.lim .. | exact spec_l01Rest.lim .. | exact spec_l01Irreducible.l0lim ..)
noncomputable def spec_l01Irreducible.d (a0 : Int) : Option (Bool) := lim (fun k => spec_l01Irreducible.f k a0)
theorem spec_l01Irreducible.lim (a0 : Int) : IsLim (fun k => spec_l01Irreducible.f k a0) (spec_l01Irreducible.d a0) := lim_spec (fun k => spec_l01Irreducible.mono a0 k)
theorem spec_l01Irreducible.d_eq (a0 : Int) : spec_l01Irreducible.d a0 = (spec_l01Degree.d a0).bind fun t104 => (if t104 < 1 then (spec_l01Irreducible.j0d a0 t104 true) else (spec_l01Irreducible.j0d a0 t104 (decide (t104 > 5)))) := by
  refine IsLim.unique (spec_l01Irreducible.lim _) ?_
  unfold spec_l01Irreducible.f
  repeat' (first | exact IsLim.const _ | refine IsLim.ite ?_ ?_ | refine IsLim.bind ?_ (fun _ => ?_) | exact spec_l01Degree.lim .. | exact spec_l01Irreducible.j0lim ..)
noncomputable def spec_IsIrreducible.d (a0 : Int) : Option (Bool) := lim (fun k => spec_IsIrreducible.f k a0)
theorem spec_IsIrreducible.lim (a0 : Int) : IsLim (fun k => spec_IsIrreducible.f k a0) (spec_IsIrreducible.d a0) := lim_spec (fun k => spec_IsIrreducible.mono a0 k)
theorem spec_IsIrreducible.d_eq (a0 : Int) : spec_IsIrreducible.d a0 = if a0 > 0 then (if a0 < 64 then ((spec_l01Irreducible.d a0).bind fun t107 => (some t107)) else (some false)) else (some false) := by
  refine IsLim.unique (spec_IsIrreducible.lim _) ?_
  unfold spec_IsIrreducible.f
  repeat' (first | exact IsLim.const _ | refine IsLim.ite ?_ ?_ | refine IsLim.bind ?_ (fun _ => ?_) | exact spec_l01Irreducible.lim ..)
noncomputable def spec_l01Ok.d (a0_0 : Int) (a0_1 : Int) : Option (Bool) := lim (fun k => spec_l01Ok.f k a0_0 a0_1)
theorem spec_l01Ok.lim (a0_0 : Int) (a0_1 : Int) : IsLim (fun k => spec_l01Ok.f k a0_0 a0_1) (spec_l01Ok.d a0_0 a0_1) := lim_spec (fun k => spec_l01Ok.mono a0_0 a0_1 k)
theorem spec_l01Ok.d_eq (a0_0 : Int) (a0_1 : Int) : spec_l01Ok.d a0_0 a0_1 = (spec_l00In.f a0_0 1 5).bind fun t109 => (if t109 = true then ((spec_IsIrreducible.d a0_1).bind fun t110 => (if t110 = true then ((spec_l01Degree.d a0_1).bind fun t111 => (some (t111 == a0_0))) else (some false))) else (some false)) := by
  refine IsLim.unique (spec_l01Ok.lim _ _) ?_
  unfold spec_l01Ok.f
  repeat' (first | exact IsLim.const _ | refine IsLim.ite ?_ ?_ | refine IsLim.bind ?_ (fun _ => ?_) | exact spec_IsIrreducible.lim .. | exact spec_l01Degree.lim ..)
end Go.Proofs.Ytngiionckbmkmaa.P
end
section
namespace Go.Proofs.Ytngiionckbmkmaa.P
open Go.RowKit Go.Proofs.YtngiionckbmkmaaW.PrintWords Go.Proofs.YtngiionckbmkmaaW.PrintLast Go.Proofs.YtngiionckbmkmaaW.PrintMore
set_option linter.unusedVariables false
noncomputable def laws_toInt64S.l0d (x0 : List Int) (x3 : List Int) (x4 : Int) : Option (List Int) := lim (fun k => laws_toInt64S.l0 k x0 x3 x4)
theorem laws_toInt64S.l0lim (x0 : List Int) (x3 : List Int) (x4 : Int) : IsLim (fun k => laws_toInt64S.l0 k x0 x3 x4) (laws_toInt64S.l0d x0 x3 x4) := lim_spec (fun k => (laws_toInt64S.mono_l k) x0 x3 x4)
theorem laws_toInt64S.l0d_eq (x0 : List Int) (x3 : List Int) (x4 : Int) : laws_toInt64S.l0d x0 x3 x4 = if x4 < (x0.length : Int) then (if 0 ≤ x4 then (if x4 < (x3.length : Int) then (laws_toInt64S.l0d x0 (x3.set (x4 : Int).toNat (rd x0 x4)) (wrap64 (x4 + 1))) else (none)) else (none)) else (some x3) := by
  refine IsLim.unique (laws_toInt64S.l0lim _ _ _) ?_
  refine IsLim.shift (by rfl) ?_
  show IsLim (fun k => if x4 < (x0.length : Int) then (if 0 ≤ x4 then (if x4 < (x3.length : Int) then (laws_toInt64S.l0 k x0 (x3.set (x4 : Int).toNat (rd x0 x4)) (wrap64 (x4 + 1))) else (none)) else (none)) else (some x3)) _
  repeat' (first | exact IsLim.const _ | refine IsLim.ite ?_ ?_ | refine IsLim.bind ?_ (fun _ => ?_) | exact laws_toInt64S.l0lim ..)
noncomputable def laws_toInt64S.d (l0 : List Int) : Option (List Int) := lim (fun k => laws_toInt64S.f k l0)
theorem laws_toInt64S.lim (l0 : List Int) : IsLim (fun k => laws_toInt64S.f k l0) (laws_toInt64S.d l0) := lim_spec (fun k => laws_toInt64S.mono l0 k)
theorem laws_toInt64S.d_eq (l0 : List Int) : laws_toInt64S.d l0 = if 0 ≤ (l0.length : Int) then (if ((l0.length : Int) : Int).toNat ≤ 35184372088832 then (laws_toInt64S.l0d l0 (List.replicate ((l0.length : Int) : Int).toNat 0) 0) else (none)) else (none) := by
  refine IsLim.unique (laws_toInt64S.lim _) ?_
  unfold laws_toInt64S.f
  repeat' (first | exact IsLim.const _ | refine IsLim.ite ?_ ?_ | refine IsLim.bind ?_ (fun _ => ?_) | exact laws_toInt64S.l0lim ..)
noncomputable def impl_degreeOf.l0d (x0 : Int) (x3 : Int) : Option (Int) := lim (fun k => impl_degreeOf.l0 k x0 x3)
theorem impl_degreeOf.l0lim (x0 : Int) (x3 : Int) : IsLim (fun k => impl_degreeOf.l0 k x0 x3) (impl_degreeOf.l0d x0 x3) := lim_spec (fun k => (impl_degreeOf.mono_l k) x0 x3)
theorem impl_degreeOf.l0d_eq (x0 : Int) (x3 : Int) : impl_degreeOf.l0d x0 x3 = if x0 > 0 then (impl_degreeOf.l0d (x0 / 2) (wrap64 (x3 + 1))) else (some x3) := by
  refine IsLim.unique (impl_degreeOf.l0lim _ _) ?_
  refine IsLim.shift (by rfl) ?_
  show IsLim (fun k => if x0 > 0 then (impl_degreeOf.l0 k (x0 / 2) (wrap64 (x3 + 1))) else (some x3)) _
  repeat' (first | exact IsLim.const _ | refine IsLim.ite ?_ ?_ | refine IsLim.bind ?_ (fun _ => ?_) | exact impl_degreeOf.l0lim ..)
noncomputable def impl_degreeOf.d (a0 : Int) : Option (Int) := lim (fun k => impl_degreeOf.f k a0)
theorem impl_degreeOf.lim (a0 : Int) : IsLim (fun k => impl_degreeOf.f k a0) (impl_degreeOf.d a0) := lim_spec (fun k => impl_degreeOf.mono a0 k)
theorem impl_degreeOf.d_eq (a0 : Int) : impl_degreeOf.d a0 = impl_degreeOf.l0d a0 (-1) := by
  refine IsLim.unique (impl_degreeOf.lim _) ?_
  unfold impl_degreeOf.f
  repeat' (first | exact IsLim.const _ | refine IsLim.ite ?_ ?_ | refine IsLim.bind ?_ (fun _ => ?_) | exact impl_degreeOf.l0lim ..)
noncomputable def impl_restOf.l0d (x0 : Int) (x1 : Int) (x5 : Int) : Option (Int) := lim (fun k => impl_restOf.l0 k x0 x1 x5)
theorem impl_restOf.l0lim (x0 : Int) (x1 : Int) (x5 : Int) : IsLim (fun k => impl_restOf.l0 k x0 x1 x5) (impl_restOf.l0d x0 x1 x5) := lim_spec (fun k => (impl_restOf.mono_l k) x0 x1 x5)
theorem impl_restOf.l0d_eq (x0 : Int) (x1 : Int) (x5 : Int) : impl_restOf.l0d x0 x1 x5 = (impl_degreeOf.d x0).bind fun t144 => (if t144 ≥ x5 then ((impl_degreeOf.d x0).bind fun t145 => (if 0 ≤ (wrap64 (t145 - x5)) then (impl_restOf.l0d (Go.bits .xor .i64 x0 (shl .i64 x1 (wrap64 (t145 - x5)))) x1 x5) else (none))) else (some x0)) := by
  refine IsLim.unique (impl_restOf.l0lim _ _ _) ?_
  refine IsLim.shift (by rfl) ?_
  show IsLim (fun k => (impl_degreeOf.f k x0).bind fun t144 => (if t144 ≥ x5 then ((impl_degreeOf.f k x0).bind fun t145 => (if 0 ≤ (wrap64 (t145 - x5)) then (impl_restOf.l0 k (Go.bits .xor .i64 x0 (shl .i64 x1 (wrap64 (t145 - x5)))) x1 x5) else (none))) else (some x0))) _
  repeat' (first | exact IsLim.const _ | refine IsLim.ite ?_ ?_ | refine IsLim.bind ?_ (fun _ => ?_) | exact impl_degreeOf.lim .. | exact impl_restOf.l0lim ..)
noncomputable def impl_restOf.d (a0 : Int) (a1 : Int) : Option (Int) := lim (fun k => impl_restOf.f k a0 a1)
theorem impl_restOf.lim (a0 : Int) (a1 : Int) : IsLim (fun k => impl_restOf.f k a0 a1) (impl_restOf.d a0 a1) := lim_spec (fun k => impl_restOf.mono a0 a1 k)
theorem impl_restOf.d_eq (a0 : Int) (a1 : Int) : impl_restOf.d a0 a1 = (impl_degreeOf.d a1).bind fun t143 => (impl_restOf.l0d a0 a1 t143) := by
  refine IsLim.unique (impl_restOf.lim _ _) ?_
  unfold impl_restOf.f
  repeat' (first | exact IsLim.const _ | refine IsLim.ite ?_ ?_ | refine IsLim.bind ?_ (fun _ => ?_) | exact impl_degreeOf.lim .. | exact impl_restOf.l0lim ..)
noncomputable def impl_IsIrreducible.j0d (x0 : Int) (x9 : Bool) : Option (Bool) := lim (fun k => impl_IsIrreducible.j0 k x0 x9)
theorem impl_IsIrreducible.j0lim (x0 : Int) (x9 : Bool) : IsLim (fun k => impl_IsIrreducible.j0 k x0 x9) (impl_IsIrreducible.j0d x0 x9) := lim_spec (fun k => (impl_IsIrreducible.mono_l k).1 x0 x9)
noncomputable def impl_IsIrreducible.l0d (x0 : Int) (x3 : Int) : Option (Bool) := lim (fun k => impl_IsIrreducible.l0 k x0 x3)
theorem impl_IsIrreducible.l0lim (x0 : Int) (x3 : Int) : IsLim (fun k => impl_IsIrreducible.l0 k x0 x3) (impl_IsIrreducible.l0d x0 x3) := lim_spec (fun k => (impl_IsIrreducible.mono_l k).2 x0 x3)
theorem impl_IsIrreducible.j0d_eq (x0 : Int) (x9 : Bool) : impl_IsIrreducible.j0d x0 x9 = if x9 = true then (some false) else (impl_IsIrreducible.l0d x0 2) := by
  refine IsLim.unique (impl_IsIrreducible.j0lim _ _) ?_
  refine IsLim.shift (by rfl) ?_
  show IsLim (fun k => if x9 = true then (some false) else (impl_IsIrreducible.l0 k x0 2)) _
  repeat' (first | exact IsLim.const _ | refine IsLim.ite ?_ ?_ | refine IsLim.bind ?_ (fun _ => ?_) | exact impl_IsIrreducible.l0lim ..)
theorem impl_IsIrreducible.l0d_eq (x0 : Int) (x3 : Int) : impl_IsIrreducible.l0d x0 x3 = (impl_degreeOf.d x3).bind fun t146 => ((impl_degreeOf.d x0).bind fun t147 => (if (wrap64 (2 * t146)) ≤ t147 then ((impl_restOf.d x0 x3).bind fun t148 => (if t148 = 0 then (some false) else (impl_IsIrreducible.l0d x0 (wrap64 (x3 + 1))))) else (some true))) := by
  refine IsLim.unique (impl_IsIrreducible.l0lim _ _) ?_
  refine IsLim.shift (by rfl) ?_
  show IsLim (fun k => (impl_degreeOf.f k x3).bind fun t146 => ((impl_degreeOf.f k x0).bind fun t147 => (if (wrap64 (2 * t146)) ≤ t147 then ((impl_restOf.f k x0 x3).bind fun t148 => (if t148 = 0 then (some false) else (impl_IsIrreducible.l0 k x0 (wrap64 (x3 + 1))))) else (some true)))) _
  repeat' (first | exact IsLim.const _ | refine IsLim.ite ?_ ?_ | refine IsLim.bind ?_ (fun _ => ?_) | exact impl_degreeOf.lim .. | exact impl_restOf.lim .. | exact impl_IsIrreducible.l0lim ..)
noncomputable def impl_IsIrreducible.d (a0 : Int) : Option (Bool) := lim (fun k => impl_IsIrreducible.f k a0)
theorem impl_IsIrreducible.lim (a0 : Int) : IsLim (fun k => impl_IsIrreducible.f k a0) (impl_IsIrreducible.d a0) := lim_spec (fun k => impl_IsIrreducible.mono a0 k)
theorem impl_IsIrreducible.d_eq (a0 : Int) : impl_IsIrreducible.d a0 = if a0 < 2 then (impl_IsIrreducible.j0d a0 true) else (impl_IsIrreducible.j0d a0 (decide (a0 ≥ 64))) := by
  refine IsLim.unique (impl_IsIrreducible.lim _) ?_
  unfold impl_IsIrreducible.f
  repeat' (first | exact IsLim.const _ | refine IsLim.ite ?_ ?_ | refine IsLim.bind ?_ (fun _ => ?_) | exact impl_IsIrreducible.j0lim ..)
noncomputable def impl_ValidField.d (a0_0 : Int) (a0_1 : Int) : Option (Bool) := lim (fun k => impl_ValidField.f k a0_0 a0_1)
theorem impl_ValidField.lim (a0_0 : Int) (a0_1 : Int) : IsLim (fun k => impl_ValidField.f k a0_0 a0_1) (impl_ValidField.d a0_0 a0_1) := lim_spec (fun k => impl_ValidField.mono a0_0 a0_1 k)
theorem impl_ValidField.d_eq (a0_0 : Int) (a0_1 : Int) : impl_ValidField.d a0_0 a0_1 = (impl_within.f a0_0 1 5).bind fun t150 => (if t150 = true then ((impl_IsIrreducible.d a0_1).bind fun t151 => (if t151 = true then ((impl_degreeOf.d a0_1).bind fun t152 => (some (t152 == a0_0))) else (some false))) else (some false)) := by
  refine IsLim.unique (impl_ValidField.lim _ _) ?_
  unfold impl_ValidField.f
  repeat' (first | exact IsLim.const _ | refine IsLim.ite ?_ ?_ | refine IsLim.bind ?_ (fun _ => ?_) | exact impl_IsIrreducible.lim .. | exact impl_degreeOf.lim ..)
noncomputable def laws_eqInt64S.l0d (x0 : List Int) (x1 : List Int) (x5 : Int) : Option (Bool) := lim (fun k => laws_eqInt64S.l0 k x0 x1 x5)
theorem laws_eqInt64S.l0lim (x0 : List Int) (x1 : List Int) (x5 : Int) : IsLim (fun k => laws_eqInt64S.l0 k x0 x1 x5) (laws_eqInt64S.l0d x0 x1 x5) := lim_spec (fun k => (laws_eqInt64S.mono_l k) x0 x1 x5)
theorem laws_eqInt64S.l0d_eq (x0 : List Int) (x1 : List Int) (x5 : Int) : laws_eqInt64S.l0d x0 x1 x5 = if x5 < (x0.length : Int) then (if 0 ≤ x5 then (if x5 < (x1.length : Int) then (if (rd x0 x5) = (rd x1 x5) then (laws_eqInt64S.l0d x0 x1 (wrap64 (x5 + 1))) else (some false)) else (none)) else (none)) else (some true) := by
  refine IsLim.unique (laws_eqInt64S.l0lim _ _ _) ?_
  refine IsLim.shift (by rfl) ?_
  show IsLim (fun k => if x5 < (x0.length : Int) then (if 0 ≤ x5 then (if x5 < (x1.length : Int) then (if (rd x0 x5) = (rd x1 x5) then (laws_eqInt64S.l0 k x0 x1 (wrap64 (x5 + 1))) else (some false)) else (none)) else (none)) else (some true)) _
  repeat' (first | exact IsLim.const _ | refine IsLim.ite ?_ ?_ | refine IsLim.bind ?_ (fun _ => ?_) | exact laws_eqInt64S.l0lim ..)
noncomputable def laws_eqInt64S.d (l0 : List Int) (l1 : List Int) : Option (Bool) := lim (fun k => laws_eqInt64S.f k l0 l1)
theorem laws_eqInt64S.lim (l0 : List Int) (l1 : List Int) : IsLim (fun k => laws_eqInt64S.f k l0 l1) (laws_eqInt64S.d l0 l1) := lim_spec (fun k => laws_eqInt64S.mono l0 l1 k)
theorem laws_eqInt64S.d_eq (l0 : List Int) (l1 : List Int) : laws_eqInt64S.d l0 l1 = if (l0.length : Int) = (l1.length : Int) then (laws_eqInt64S.l0d l0 l1 0) else (some false) := by
  refine IsLim.unique (laws_eqInt64S.lim _ _) ?_
  unfold laws_eqInt64S.f
  repeat' (first | exact IsLim.const _ | refine IsLim.ite ?_ ?_ | refine IsLim.bind ?_ (fun _ => ?_) | exact laws_eqInt64S.l0lim ..)
end Go.Proofs.Ytngiionckbmkmaa.P
end
section
namespace Go.Proofs.Ytngiionckbmkmaa.P
open Go.RowKit Go.Proofs.YtngiionckbmkmaaW.PrintWords Go.Proofs.YtngiionckbmkmaaW.PrintLast Go.Proofs.YtngiionckbmkmaaW.PrintMore
set_option linter.unusedVariables false
noncomputable def laws_markInt64S.l0d (x0 : List Int) (x1 : Int) (x5 : Int) : Option (Int × List Int) := lim (fun k => laws_markInt64S.l0 k x0 x1 x5)
theorem laws_markInt64S.l0lim (x0 : List Int) (x1 : Int) (x5 : Int) : IsLim (fun k => laws_markInt64S.l0 k x0 x1 x5) (laws_markInt64S.l0d x0 x1 x5) := lim_spec (fun k => (laws_markInt64S.mono_l k) x0 x1 x5)
theorem laws_markInt64S.l0d_eq (x0 : List Int) (x1 : Int) (x5 : Int) : laws_markInt64S.l0d x0 x1 x5 = if x5 < (x0.length : Int) then (if 0 ≤ x5 then (laws_markInt64S.l0d (x0.set (x5 : Int).toNat x1) (wrap64 (x1 + 1)) (wrap64 (x5 + 1))) else (none)) else (some (x1, x0)) := by
  refine IsLim.unique (laws_markInt64S.l0lim _ _ _) ?_
  refine IsLim.shift (by rfl) ?_
  show IsLim (fun k => if x5 < (x0.length : Int) then (if 0 ≤ x5 then (laws_markInt64S.l0 k (x0.set (x5 : Int).toNat x1) (wrap64 (x1 + 1)) (wrap64 (x5 + 1))) else (none)) else (some (x1, x0))) _
  repeat' (first | exact IsLim.const _ | refine IsLim.ite ?_ ?_ | refine IsLim.bind ?_ (fun _ => ?_) | exact laws_markInt64S.l0lim ..)
noncomputable def laws_markInt64S.d (l0 : List Int) (a1 : Int) : Option (Int × List Int) := lim (fun k => laws_markInt64S.f k l0 a1)
theorem laws_markInt64S.lim (l0 : List Int) (a1 : Int) : IsLim (fun k => laws_markInt64S.f k l0 a1) (laws_markInt64S.d l0 a1) := lim_spec (fun k => laws_markInt64S.mono l0 a1 k)
theorem laws_markInt64S.d_eq (l0 : List Int) (a1 : Int) : laws_markInt64S.d l0 a1 = laws_markInt64S.l0d l0 a1 0 := by
  refine IsLim.unique (laws_markInt64S.lim _ _) ?_
  unfold laws_markInt64S.f
  repeat' (first | exact IsLim.const _ | refine IsLim.ite ?_ ?_ | refine IsLim.bind ?_ (fun _ => ?_) | exact laws_markInt64S.l0lim ..)
noncomputable def laws_heldInt64S.l0d (x0 : List Int) (x1 : Int) (x5 : Int) : Option (Int) := lim (fun k => laws_heldInt64S.l0 k x0 x1 x5)
theorem laws_heldInt64S.l0lim (x0 : List Int) (x1 : Int) (x5 : Int) : IsLim (fun k => laws_heldInt64S.l0 k x0 x1 x5) (laws_heldInt64S.l0d x0 x1 x5) := lim_spec (fun k => (laws_heldInt64S.mono_l k) x0 x1 x5)
theorem laws_heldInt64S.l0d_eq (x0 : List Int) (x1 : Int) (x5 : Int) : laws_heldInt64S.l0d x0 x1 x5 = if x5 < (x0.length : Int) then (if 0 ≤ x5 then (if (rd x0 x5) = x1 then (laws_heldInt64S.l0d x0 (wrap64 (x1 + 1)) (wrap64 (x5 + 1))) else (some (-1))) else (none)) else (some x1) := by
  refine IsLim.unique (laws_heldInt64S.l0lim _ _ _) ?_
  refine IsLim.shift (by rfl) ?_
  show IsLim (fun k => if x5 < (x0.length : Int) then (if 0 ≤ x5 then (if (rd x0 x5) = x1 then (laws_heldInt64S.l0 k x0 (wrap64 (x1 + 1)) (wrap64 (x5 + 1))) else (some (-1))) else (none)) else (some x1)) _
  repeat' (first | exact IsLim.const _ | refine IsLim.ite ?_ ?_ | refine IsLim.bind ?_ (fun _ => ?_) | exact laws_heldInt64S.l0lim ..)
noncomputable def laws_heldInt64S.d (l0 : List Int) (a1 : Int) : Option (Int) := lim (fun k => laws_heldInt64S.f k l0 a1)
theorem laws_heldInt64S.lim (l0 : List Int) (a1 : Int) : IsLim (fun k => laws_heldInt64S.f k l0 a1) (laws_heldInt64S.d l0 a1) := lim_spec (fun k => laws_heldInt64S.mono l0 a1 k)
theorem laws_heldInt64S.d_eq (l0 : List Int) (a1 : Int) : laws_heldInt64S.d l0 a1 = laws_heldInt64S.l0d l0 a1 0 := by
  refine IsLim.unique (laws_heldInt64S.lim _ _) ?_
  unfold laws_heldInt64S.f
  repeat' (first | exact IsLim.const _ | refine IsLim.ite ?_ ?_ | refine IsLim.bind ?_ (fun _ => ?_) | exact laws_heldInt64S.l0lim ..)
end Go.Proofs.Ytngiionckbmkmaa.P
end
section
namespace Go.Proofs.Ytngiionckbmkmaa.P
open Go.RowKit Go.Proofs.YtngiionckbmkmaaW.PrintWords Go.Proofs.YtngiionckbmkmaaW.PrintLast Go.Proofs.YtngiionckbmkmaaW.PrintMore
set_option linter.unusedVariables false
noncomputable def laws_eqMatrix.d (a0_0 : Int) (l0_1 : List Int) (a1_0 : Int) (l1_1 : List Int) : Option (Bool) := lim (fun k => laws_eqMatrix.f k a0_0 l0_1 a1_0 l1_1)
theorem laws_eqMatrix.lim (a0_0 : Int) (l0_1 : List Int) (a1_0 : Int) (l1_1 : List Int) : IsLim (fun k => laws_eqMatrix.f k a0_0 l0_1 a1_0 l1_1) (laws_eqMatrix.d a0_0 l0_1 a1_0 l1_1) := lim_spec (fun k => laws_eqMatrix.mono a0_0 l0_1 a1_0 l1_1 k)
theorem laws_eqMatrix.d_eq (a0_0 : Int) (l0_1 : List Int) (a1_0 : Int) (l1_1 : List Int) : laws_eqMatrix.d a0_0 l0_1 a1_0 l1_1 = if a0_0 = a1_0 then ((laws_eqInt64S.d l0_1 l1_1).bind fun t193 => (if t193 = true then (some true) else (some false))) else (some false) := by
  refine IsLim.unique (laws_eqMatrix.lim _ _ _ _) ?_
  unfold laws_eqMatrix.f
  repeat' (first | exact IsLim.const _ | refine IsLim.ite ?_ ?_ | refine IsLim.bind ?_ (fun _ => ?_) | exact laws_eqInt64S.lim ..)
noncomputable def laws_markMatrix.d (a0_0 : Int) (l0_1 : List Int) (a1 : Int) : Option (Int × List Int) := lim (fun k => laws_markMatrix.f k a0_0 l0_1 a1)
theorem laws_markMatrix.lim (a0_0 : Int) (l0_1 : List Int) (a1 : Int) : IsLim (fun k => laws_markMatrix.f k a0_0 l0_1 a1) (laws_markMatrix.d a0_0 l0_1 a1) := lim_spec (fun k => laws_markMatrix.mono a0_0 l0_1 a1 k)
theorem laws_markMatrix.d_eq (a0_0 : Int) (l0_1 : List Int) (a1 : Int) : laws_markMatrix.d a0_0 l0_1 a1 = (laws_markInt64S.d l0_1 a1).bind fun bt196 => (some (bt196.1, bt196.2)) := by
  refine IsLim.unique (laws_markMatrix.lim _ _ _) ?_
  unfold laws_markMatrix.f
  repeat' (first | exact IsLim.const _ | refine IsLim.ite ?_ ?_ | refine IsLim.bind ?_ (fun _ => ?_) | exact laws_markInt64S.lim ..)
end Go.Proofs.Ytngiionckbmkmaa.P
end
section
namespace Go.Proofs.Ytngiionckbmkmaa.P
open Go.RowKit Go.Proofs.YtngiionckbmkmaaW.PrintWords Go.Proofs.YtngiionckbmkmaaW.PrintLast Go.Proofs.YtngiionckbmkmaaW.PrintMore
set_option linter.unusedVariables false
noncomputable def laws_heldMatrix.d (a0_0 : Int) (l0_1 : List Int) (a1 : Int) : Option (Int) := lim (fun k => laws_heldMatrix.f k a0_0 l0_1 a1)
theorem laws_heldMatrix.lim (a0_0 : Int) (l0_1 : List Int) (a1 : Int) : IsLim (fun k => laws_heldMatrix.f k a0_0 l0_1 a1) (laws_heldMatrix.d a0_0 l0_1 a1) := lim_spec (fun k => laws_heldMatrix.mono a0_0 l0_1 a1 k)
theorem laws_heldMatrix.d_eq (a0_0 : Int) (l0_1 : List Int) (a1 : Int) : laws_heldMatrix.d a0_0 l0_1 a1 = (laws_heldInt64S.d l0_1 a1).bind fun t200 => (if t200 < 0 then (some (-1)) else (some t200)) := by
  refine IsLim.unique (laws_heldMatrix.lim _ _ _) ?_
  unfold laws_heldMatrix.f
  repeat' (first | exact IsLim.const _ | refine IsLim.ite ?_ ?_ | refine IsLim.bind ?_ (fun _ => ?_) | exact laws_heldInt64S.lim ..)
end Go.Proofs.Ytngiionckbmkmaa.P
end
section
namespace Go.Proofs.Ytngiionckbmkmaa.P
open Go.RowKit Go.Proofs.YtngiionckbmkmaaW.PrintWords Go.Proofs.YtngiionckbmkmaaW.PrintLast Go.Proofs.YtngiionckbmkmaaW.PrintMore
set_option linter.unusedVariables false
noncomputable def spec_l04Elements.l0d (x1 : List Int) (x5 : Int) (x114000 : Int) (x114001 : Int) : Option (Bool) := lim (fun k => spec_l04Elements.l0 k x1 x5 x114000 x114001)
theorem spec_l04Elements.l0lim (x1 : List Int) (x5 : Int) (x114000 : Int) (x114001 : Int) : IsLim (fun k => spec_l04Elements.l0 k x1 x5 x114000 x114001) (spec_l04Elements.l0d x1 x5 x114000 x114001) := lim_spec (fun k => (spec_l04Elements.mono_l k) x1 x5 x114000 x114001)
theorem spec_l04Elements.l0d_eq (x1 : List Int) (x5 : Int) (x114000 : Int) (x114001 : Int) : spec_l04Elements.l0d x1 x5 x114000 x114001 = if x5 < (x1.length : Int) then (if 0 ≤ x5 then ((spec_l01Size.f x114000 x114001).bind fun t115 => ((spec_l00In.f (rd x1 x5) 0 (wrap64 (t115 - 1))).bind fun t116 => (if t116 = true then (spec_l04Elements.l0d x1 (wrap64 (x5 + 1)) x114000 x114001) else (some false)))) else (none)) else (some true) := by
  refine IsLim.unique (spec_l04Elements.l0lim _ _ _ _) ?_
  refine IsLim.shift (by rfl) ?_
  show IsLim (fun k => if x5 < (x1.length : Int) then (if 0 ≤ x5 then ((spec_l01Size.f x114000 x114001).bind fun t115 => ((spec_l00In.f (rd x1 x5) 0 (wrap64 (t115 - 1))).bind fun t116 => (if t116 = true then (spec_l04Elements.l0 k x1 (wrap64 (x5 + 1)) x114000 x114001) else (some false)))) else (none)) else (some true)) _
  repeat' (first | exact IsLim.const _ | refine IsLim.ite ?_ ?_ | refine IsLim.bind ?_ (fun _ => ?_) | exact spec_l04Elements.l0lim ..)
noncomputable def spec_l04Elements.d (a0_0 : Int) (a0_1 : Int) (l1 : List Int) : Option (Bool) := lim (fun k => spec_l04Elements.f k a0_0 a0_1 l1)
theorem spec_l04Elements.lim (a0_0 : Int) (a0_1 : Int) (l1 : List Int) : IsLim (fun k => spec_l04Elements.f k a0_0 a0_1 l1) (spec_l04Elements.d a0_0 a0_1 l1) := lim_spec (fun k => spec_l04Elements.mono a0_0 a0_1 l1 k)
theorem spec_l04Elements.d_eq (a0_0 : Int) (a0_1 : Int) (l1 : List Int) : spec_l04Elements.d a0_0 a0_1 l1 = spec_l04Elements.l0d l1 0 a0_0 a0_1 := by
  refine IsLim.unique (spec_l04Elements.lim _ _ _) ?_
  unfold spec_l04Elements.f
  repeat' (first | exact IsLim.const _ | refine IsLim.ite ?_ ?_ | refine IsLim.bind ?_ (fun _ => ?_) | exact spec_l04Elements.l0lim ..)
noncomputable def slices_IndexFunc_int64_int64_AT_impl_Field_has_1.l0d (x0 : List Int) (x7 : Int) (x8 : Int) (x49000 : Int) (x49001 : Int) : Option (Int) := lim (fun k => slices_IndexFunc_int64_int64_AT_impl_Field_has_1.l0 k x0 x7 x8 x49000 x49001)
theorem slices_IndexFunc_int64_int64_AT_impl_Field_has_1.l0lim (x0 : List Int) (x7 : Int) (x8 : Int) (x49000 : Int) (x49001 : Int) : IsLim (fun k => slices_IndexFunc_int64_int64_AT_impl_Field_has_1.l0 k x0 x7 x8 x49000 x49001) (slices_IndexFunc_int64_int64_AT_impl_Field_has_1.l0d x0 x7 x8 x49000 x49001) := lim_spec (fun k => (slices_IndexFunc_int64_int64_AT_impl_Field_has_1.mono_l k) x0 x7 x8 x49000 x49001)
theorem slices_IndexFunc_int64_int64_AT_impl_Field_has_1.l0d_eq (x0 : List Int) (x7 : Int) (x8 : Int) (x49000 : Int) (x49001 : Int) : slices_IndexFunc_int64_int64_AT_impl_Field_has_1.l0d x0 x7 x8 x49000 x49001 = if x8 < x7 then (if 0 ≤ x8 then (if x8 < (x0.length : Int) then ((impl_Field_has_1.f (rd x0 x8) x49000 x49001).bind fun t157 => (if t157 = true then (some x8) else (slices_IndexFunc_int64_int64_AT_impl_Field_has_1.l0d x0 x7 (wrap64 (x8 + 1)) x49000 x49001))) else (none)) else (none)) else (some (-1)) := by
  refine IsLim.unique (slices_IndexFunc_int64_int64_AT_impl_Field_has_1.l0lim _ _ _ _ _) ?_
  refine IsLim.shift (by rfl) ?_
  show IsLim (fun k => if x8 < x7 then (if 0 ≤ x8 then (if x8 < (x0.length : Int) then ((impl_Field_has_1.f (rd x0 x8) x49000 x49001).bind fun t157 => (if t157 = true then (some x8) else (slices_IndexFunc_int64_int64_AT_impl_Field_has_1.l0 k x0 x7 (wrap64 (x8 + 1)) x49000 x49001))) else (none)) else (none)) else (some (-1))) _
  repeat' (first | exact IsLim.const _ | refine IsLim.ite ?_ ?_ | refine IsLim.bind ?_ (fun _ => ?_) | exact slices_IndexFunc_int64_int64_AT_impl_Field_has_1.l0lim ..)
noncomputable def slices_IndexFunc_int64_int64_AT_impl_Field_has_1.d (l0 : List Int) (a1_0 : Int) (a1_1 : Int) : Option (Int) := lim (fun k => slices_IndexFunc_int64_int64_AT_impl_Field_has_1.f k l0 a1_0 a1_1)
theorem slices_IndexFunc_int64_int64_AT_impl_Field_has_1.lim (l0 : List Int) (a1_0 : Int) (a1_1 : Int) : IsLim (fun k => slices_IndexFunc_int64_int64_AT_impl_Field_has_1.f k l0 a1_0 a1_1) (slices_IndexFunc_int64_int64_AT_impl_Field_has_1.d l0 a1_0 a1_1) := lim_spec (fun k => slices_IndexFunc_int64_int64_AT_impl_Field_has_1.mono l0 a1_0 a1_1 k)
theorem slices_IndexFunc_int64_int64_AT_impl_Field_has_1.d_eq (l0 : List Int) (a1_0 : Int) (a1_1 : Int) : slices_IndexFunc_int64_int64_AT_impl_Field_has_1.d l0 a1_0 a1_1 = slices_IndexFunc_int64_int64_AT_impl_Field_has_1.l0d l0 (l0.length : Int) 0 a1_0 a1_1 := by
  refine IsLim.unique (slices_IndexFunc_int64_int64_AT_impl_Field_has_1.lim _ _ _) ?_
  unfold slices_IndexFunc_int64_int64_AT_impl_Field_has_1.f
  repeat' (first | exact IsLim.const _ | refine IsLim.ite ?_ ?_ | refine IsLim.bind ?_ (fun _ => ?_) | exact slices_IndexFunc_int64_int64_AT_impl_Field_has_1.l0lim ..)
noncomputable def slices_ContainsFunc_int64_int64_AT_impl_Field_has_1.d (l0 : List Int) (a1_0 : Int) (a1_1 : Int) : Option (Bool) := lim (fun k => slices_ContainsFunc_int64_int64_AT_impl_Field_has_1.f k l0 a1_0 a1_1)
theorem slices_ContainsFunc_int64_int64_AT_impl_Field_has_1.lim (l0 : List Int) (a1_0 : Int) (a1_1 : Int) : IsLim (fun k => slices_ContainsFunc_int64_int64_AT_impl_Field_has_1.f k l0 a1_0 a1_1) (slices_ContainsFunc_int64_int64_AT_impl_Field_has_1.d l0 a1_0 a1_1) := lim_spec (fun k => slices_ContainsFunc_int64_int64_AT_impl_Field_has_1.mono l0 a1_0 a1_1 k)
theorem slices_ContainsFunc_int64_int64_AT_impl_Field_has_1.d_eq (l0 : List Int) (a1_0 : Int) (a1_1 : Int) : slices_ContainsFunc_int64_int64_AT_impl_Field_has_1.d l0 a1_0 a1_1 = (slices_IndexFunc_int64_int64_AT_impl_Field_has_1.d l0 a1_0 a1_1).bind fun t158 => (some (decide (t158 ≥ 0))) := by
  refine IsLim.unique (slices_ContainsFunc_int64_int64_AT_impl_Field_has_1.lim _ _ _) ?_
  unfold slices_ContainsFunc_int64_int64_AT_impl_Field_has_1.f
  repeat' (first | exact IsLim.const _ | refine IsLim.ite ?_ ?_ | refine IsLim.bind ?_ (fun _ => ?_) | exact slices_IndexFunc_int64_int64_AT_impl_Field_has_1.lim ..)
noncomputable def impl_Field_has.d (a0_0 : Int) (a0_1 : Int) (l1 : List Int) : Option (Bool) := lim (fun k => impl_Field_has.f k a0_0 a0_1 l1)
theorem impl_Field_has.lim (a0_0 : Int) (a0_1 : Int) (l1 : List Int) : IsLim (fun k => impl_Field_has.f k a0_0 a0_1 l1) (impl_Field_has.d a0_0 a0_1 l1) := lim_spec (fun k => impl_Field_has.mono a0_0 a0_1 l1 k)
theorem impl_Field_has.d_eq (a0_0 : Int) (a0_1 : Int) (l1 : List Int) : impl_Field_has.d a0_0 a0_1 l1 = (slices_ContainsFunc_int64_int64_AT_impl_Field_has_1.d l1 a0_0 a0_1).bind fun t160 => (some (!t160)) := by
  refine IsLim.unique (impl_Field_has.lim _ _ _) ?_
  unfold impl_Field_has.f
  repeat' (first | exact IsLim.const _ | refine IsLim.ite ?_ ?_ | refine IsLim.bind ?_ (fun _ => ?_) | exact slices_ContainsFunc_int64_int64_AT_impl_Field_has_1.lim ..)
end Go.Proofs.Ytngiionckbmkmaa.P
end
section
namespace Go.Proofs.Ytngiionckbmkmaa.P
open Go.RowKit Go.Proofs.YtngiionckbmkmaaW.PrintWords Go.Proofs.YtngiionckbmkmaaW.PrintLast Go.Proofs.YtngiionckbmkmaaW.PrintMore
set_option linter.unusedVariables false
noncomputable def spec_l04Word.d (a0_0 : Int) (a0_1 : Int) (l1 : List Int) : Option (Bool) := lim (fun k => spec_l04Word.f k a0_0 a0_1 l1)
theorem spec_l04Word.lim (a0_0 : Int) (a0_1 : Int) (l1 : List Int) : IsLim (fun k => spec_l04Word.f k a0_0 a0_1 l1) (spec_l04Word.d a0_0 a0_1 l1) := lim_spec (fun k => spec_l04Word.mono a0_0 a0_1 l1 k)
theorem spec_l04Word.d_eq (a0_0 : Int) (a0_1 : Int) (l1 : List Int) : spec_l04Word.d a0_0 a0_1 l1 = (spec_l00In.f (l1.length : Int) 1 5).bind fun t118 => (if t118 = true then ((spec_l04Elements.d a0_0 a0_1 l1).bind fun t119 => (some t119)) else (some false)) := by
  refine IsLim.unique (spec_l04Word.lim _ _ _) ?_
  unfold spec_l04Word.f
  repeat' (first | exact IsLim.const _ | refine IsLim.ite ?_ ?_ | refine IsLim.bind ?_ (fun _ => ?_) | exact spec_l04Elements.lim ..)
noncomputable def impl_Field_isWord.d (a0_0 : Int) (a0_1 : Int) (l1 : List Int) : Option (Bool) := lim (fun k => impl_Field_isWord.f k a0_0 a0_1 l1)
theorem impl_Field_isWord.lim (a0_0 : Int) (a0_1 : Int) (l1 : List Int) : IsLim (fun k => impl_Field_isWord.f k a0_0 a0_1 l1) (impl_Field_isWord.d a0_0 a0_1 l1) := lim_spec (fun k => impl_Field_isWord.mono a0_0 a0_1 l1 k)
theorem impl_Field_isWord.d_eq (a0_0 : Int) (a0_1 : Int) (l1 : List Int) : impl_Field_isWord.d a0_0 a0_1 l1 = (impl_size_int64_85.f l1).bind fun t162 => ((impl_within.f t162 1 5).bind fun t163 => (if t163 = true then ((impl_Field_has.d a0_0 a0_1 l1).bind fun t164 => (some t164)) else (some false))) := by
  refine IsLim.unique (impl_Field_isWord.lim _ _ _) ?_
  unfold impl_Field_isWord.f
  repeat' (first | exact IsLim.const _ | refine IsLim.ite ?_ ?_ | refine IsLim.bind ?_ (fun _ => ?_) | exact impl_Field_has.lim ..)
noncomputable def impl_Field_wordCode_1.d (l0 : List Int) (a1_0 : Int) (a1_1 : Int) (l2_0 : List (List Int)) : Option (Bool) := lim (fun k => impl_Field_wordCode_1.f k l0 a1_0 a1_1 l2_0)
theorem impl_Field_wordCode_1.lim (l0 : List Int) (a1_0 : Int) (a1_1 : Int) (l2_0 : List (List Int)) : IsLim (fun k => impl_Field_wordCode_1.f k l0 a1_0 a1_1 l2_0) (impl_Field_wordCode_1.d l0 a1_0 a1_1 l2_0) := lim_spec (fun k => impl_Field_wordCode_1.mono l0 a1_0 a1_1 l2_0 k)
theorem impl_Field_wordCode_1.d_eq (l0 : List Int) (a1_0 : Int) (a1_1 : Int) (l2_0 : List (List Int)) : impl_Field_wordCode_1.d l0 a1_0 a1_1 l2_0 = (impl_Field_isWord.d a1_0 a1_1 l0).bind fun t165 => (if t165 = true then (if 0 < (l2_0.length : Int) then (some ((l0.length : Int) != ((rd_L1 l2_0 0).length : Int))) else (none)) else (some true)) := by
  refine IsLim.unique (impl_Field_wordCode_1.lim _ _ _ _) ?_
  unfold impl_Field_wordCode_1.f
  repeat' (first | exact IsLim.const _ | refine IsLim.ite ?_ ?_ | refine IsLim.bind ?_ (fun _ => ?_) | exact impl_Field_isWord.lim ..)
noncomputable def slices_IndexFunc_int64_int64_AT_impl_Field_wordCode_1.l0d (x0 : List (List Int)) (x7 : Int) (x8 : Int) (x49000 : Int) (x49001 : Int) (x50000 : List (List Int)) : Option (Int) := lim (fun k => slices_IndexFunc_int64_int64_AT_impl_Field_wordCode_1.l0 k x0 x7 x8 x49000 x49001 x50000)
theorem slices_IndexFunc_int64_int64_AT_impl_Field_wordCode_1.l0lim (x0 : List (List Int)) (x7 : Int) (x8 : Int) (x49000 : Int) (x49001 : Int) (x50000 : List (List Int)) : IsLim (fun k => slices_IndexFunc_int64_int64_AT_impl_Field_wordCode_1.l0 k x0 x7 x8 x49000 x49001 x50000) (slices_IndexFunc_int64_int64_AT_impl_Field_wordCode_1.l0d x0 x7 x8 x49000 x49001 x50000) := lim_spec (fun k => (slices_IndexFunc_int64_int64_AT_impl_Field_wordCode_1.mono_l k) x0 x7 x8 x49000 x49001 x50000)
theorem slices_IndexFunc_int64_int64_AT_impl_Field_wordCode_1.l0d_eq (x0 : List (List Int)) (x7 : Int) (x8 : Int) (x49000 : Int) (x49001 : Int) (x50000 : List (List Int)) : slices_IndexFunc_int64_int64_AT_impl_Field_wordCode_1.l0d x0 x7 x8 x49000 x49001 x50000 = if x8 < x7 then (if 0 ≤ x8 then (if x8 < (x0.length : Int) then ((impl_Field_wordCode_1.d (rd_L1 x0 x8) x49000 x49001 x50000).bind fun t168 => (if t168 = true then (some x8) else (slices_IndexFunc_int64_int64_AT_impl_Field_wordCode_1.l0d x0 x7 (wrap64 (x8 + 1)) x49000 x49001 x50000))) else (none)) else (none)) else (some (-1)) := by
  refine IsLim.unique (slices_IndexFunc_int64_int64_AT_impl_Field_wordCode_1.l0lim _ _ _ _ _ _) ?_
  refine IsLim.shift (by rfl) ?_
  show IsLim (fun k => if x8 < x7 then (if 0 ≤ x8 then (if x8 < (x0.length : Int) then ((impl_Field_wordCode_1.f k (rd_L1 x0 x8) x49000 x49001 x50000).bind fun t168 => (if t168 = true then (some x8) else (slices_IndexFunc_int64_int64_AT_impl_Field_wordCode_1.l0 k x0 x7 (wrap64 (x8 + 1)) x49000 x49001 x50000))) else (none)) else (none)) else (some (-1))) _
  repeat' (first | exact IsLim.const _ | refine IsLim.ite ?_ ?_ | refine IsLim.bind ?_ (fun _ => ?_) | exact impl_Field_wordCode_1.lim .. | exact slices_IndexFunc_int64_int64_AT_impl_Field_wordCode_1.l0lim ..)
noncomputable def slices_IndexFunc_int64_int64_AT_impl_Field_wordCode_1.d (l0 : List (List Int)) (a1_0 : Int) (a1_1 : Int) (l1_2 : List (List Int)) : Option (Int) := lim (fun k => slices_IndexFunc_int64_int64_AT_impl_Field_wordCode_1.f k l0 a1_0 a1_1 l1_2)
theorem slices_IndexFunc_int64_int64_AT_impl_Field_wordCode_1.lim (l0 : List (List Int)) (a1_0 : Int) (a1_1 : Int) (l1_2 : List (List Int)) : IsLim (fun k => slices_IndexFunc_int64_int64_AT_impl_Field_wordCode_1.f k l0 a1_0 a1_1 l1_2) (slices_IndexFunc_int64_int64_AT_impl_Field_wordCode_1.d l0 a1_0 a1_1 l1_2) := lim_spec (fun k => slices_IndexFunc_int64_int64_AT_impl_Field_wordCode_1.mono l0 a1_0 a1_1 l1_2 k)
theorem slices_IndexFunc_int64_int64_AT_impl_Field_wordCode_1.d_eq (l0 : List (List Int)) (a1_0 : Int) (a1_1 : Int) (l1_2 : List (List Int)) : slices_IndexFunc_int64_int64_AT_impl_Field_wordCode_1.d l0 a1_0 a1_1 l1_2 = slices_IndexFunc_int64_int64_AT_impl_Field_wordCode_1.l0d l0 (l0.length : Int) 0 a1_0 a1_1 l1_2 := by
  refine IsLim.unique (slices_IndexFunc_int64_int64_AT_impl_Field_wordCode_1.lim _ _ _ _) ?_
  unfold slices_IndexFunc_int64_int64_AT_impl_Field_wordCode_1.f
  repeat' (first | exact IsLim.const _ | refine IsLim.ite ?_ ?_ | refine IsLim.bind ?_ (fun _ => ?_) | exact slices_IndexFunc_int64_int64_AT_impl_Field_wordCode_1.l0lim ..)
noncomputable def slices_ContainsFunc_int64_int64_AT_impl_Field_wordCode_1.d (l0 : List (List Int)) (a1_0 : Int) (a1_1 : Int) (l1_2 : List (List Int)) : Option (Bool) := lim (fun k => slices_ContainsFunc_int64_int64_AT_impl_Field_wordCode_1.f k l0 a1_0 a1_1 l1_2)
theorem slices_ContainsFunc_int64_int64_AT_impl_Field_wordCode_1.lim (l0 : List (List Int)) (a1_0 : Int) (a1_1 : Int) (l1_2 : List (List Int)) : IsLim (fun k => slices_ContainsFunc_int64_int64_AT_impl_Field_wordCode_1.f k l0 a1_0 a1_1 l1_2) (slices_ContainsFunc_int64_int64_AT_impl_Field_wordCode_1.d l0 a1_0 a1_1 l1_2) := lim_spec (fun k => slices_ContainsFunc_int64_int64_AT_impl_Field_wordCode_1.mono l0 a1_0 a1_1 l1_2 k)
theorem slices_ContainsFunc_int64_int64_AT_impl_Field_wordCode_1.d_eq (l0 : List (List Int)) (a1_0 : Int) (a1_1 : Int) (l1_2 : List (List Int)) : slices_ContainsFunc_int64_int64_AT_impl_Field_wordCode_1.d l0 a1_0 a1_1 l1_2 = (slices_IndexFunc_int64_int64_AT_impl_Field_wordCode_1.d l0 a1_0 a1_1 l1_2).bind fun t169 => (some (decide (t169 ≥ 0))) := by
  refine IsLim.unique (slices_ContainsFunc_int64_int64_AT_impl_Field_wordCode_1.lim _ _ _ _) ?_
  unfold slices_ContainsFunc_int64_int64_AT_impl_Field_wordCode_1.f
  repeat' (first | exact IsLim.const _ | refine IsLim.ite ?_ ?_ | refine IsLim.bind ?_ (fun _ => ?_) | exact slices_IndexFunc_int64_int64_AT_impl_Field_wordCode_1.lim ..)
noncomputable def impl_Field_wordCode.d (a0_0 : Int) (a0_1 : Int) (l1 : List (List Int)) : Option (Int) := lim (fun k => impl_Field_wordCode.f k a0_0 a0_1 l1)
theorem impl_Field_wordCode.lim (a0_0 : Int) (a0_1 : Int) (l1 : List (List Int)) : IsLim (fun k => impl_Field_wordCode.f k a0_0 a0_1 l1) (impl_Field_wordCode.d a0_0 a0_1 l1) := lim_spec (fun k => impl_Field_wordCode.mono a0_0 a0_1 l1 k)
theorem impl_Field_wordCode.d_eq (a0_0 : Int) (a0_1 : Int) (l1 : List (List Int)) : impl_Field_wordCode.d a0_0 a0_1 l1 = (impl_ValidField.d a0_0 a0_1).bind fun t172 => (if t172 = true then ((slices_ContainsFunc_int64_int64_AT_impl_Field_wordCode_1.d l1 a0_0 a0_1 l1).bind fun t173 => (if t173 = true then (some 2) else (some 0))) else (some 1)) := by
  refine IsLim.unique (impl_Field_wordCode.lim _ _ _) ?_
  unfold impl_Field_wordCode.f
  repeat' (first | exact IsLim.const _ | refine IsLim.ite ?_ ?_ | refine IsLim.bind ?_ (fun _ => ?_) | exact impl_ValidField.lim .. | exact slices_ContainsFunc_int64_int64_AT_impl_Field_wordCode_1.lim ..)
end Go.Proofs.Ytngiionckbmkmaa.P
end
section
namespace Go.Proofs.Ytngiionckbmkmaa.P
open Go.RowKit Go.Proofs.YtngiionckbmkmaaW.PrintWords Go.Proofs.YtngiionckbmkmaaW.PrintLast Go.Proofs.YtngiionckbmkmaaW.PrintMore
set_option linter.unusedVariables false
noncomputable def spec_l04Given.d (a0_0 : Int) (a0_1 : Int) (l1 : List Int) : Option (Int) := lim (fun k => spec_l04Given.f k a0_0 a0_1 l1)
theorem spec_l04Given.lim (a0_0 : Int) (a0_1 : Int) (l1 : List Int) : IsLim (fun k => spec_l04Given.f k a0_0 a0_1 l1) (spec_l04Given.d a0_0 a0_1 l1) := lim_spec (fun k => spec_l04Given.mono a0_0 a0_1 l1 k)
theorem spec_l04Given.d_eq (a0_0 : Int) (a0_1 : Int) (l1 : List Int) : spec_l04Given.d a0_0 a0_1 l1 = (spec_l01Ok.d a0_0 a0_1).bind fun t121 => (if t121 = true then ((spec_l04Word.d a0_0 a0_1 l1).bind fun t122 => (if t122 = true then (some 0) else (some 2))) else (some 1)) := by
  refine IsLim.unique (spec_l04Given.lim _ _ _) ?_
  unfold spec_l04Given.f
  repeat' (first | exact IsLim.const _ | refine IsLim.ite ?_ ?_ | refine IsLim.bind ?_ (fun _ => ?_) | exact spec_l01Ok.lim .. | exact spec_l04Word.lim ..)
end Go.Proofs.Ytngiionckbmkmaa.P
end
section
namespace Go.Proofs.Ytngiionckbmkmaa.P
open Go.RowKit Go.Proofs.YtngiionckbmkmaaW.PrintWords Go.Proofs.YtngiionckbmkmaaW.PrintLast Go.Proofs.YtngiionckbmkmaaW.PrintMore
set_option linter.unusedVariables false
noncomputable def spec_l06Lift.l0d (x1 : List Int) (x5 : Int) (x7 : Int) (x251000 : Int) (x251001 : List Int) : Option (Int × List Int) := lim (fun k => spec_l06Lift.l0 k x1 x5 x7 x251000 x251001)
theorem spec_l06Lift.l0lim (x1 : List Int) (x5 : Int) (x7 : Int) (x251000 : Int) (x251001 : List Int) : IsLim (fun k => spec_l06Lift.l0 k x1 x5 x7 x251000 x251001) (spec_l06Lift.l0d x1 x5 x7 x251000 x251001) := lim_spec (fun k => (spec_l06Lift.mono_l k) x1 x5 x7 x251000 x251001)
theorem spec_l06Lift.l0d_eq (x1 : List Int) (x5 : Int) (x7 : Int) (x251000 : Int) (x251001 : List Int) : spec_l06Lift.l0d x1 x5 x7 x251000 x251001 = if x7 < x5 then (if 0 ≤ (IntKind.u64.wrap (x7)) then (if 0 ≤ x7 then (if x7 < (x1.length : Int) then (if 0 ≤ (IntKind.u64.wrap (x5)) then (if x251001.length < 17592186044416 then (spec_l06Lift.l0d x1 x5 (wrap64 (x7 + 1)) x251000 (x251001 ++ [Go.bits .or .i64 (shl .i64 1 (IntKind.u64.wrap (x7))) (shl .i64 (rd x1 x7) (IntKind.u64.wrap (x5)))])) else (none)) else (none)) else (none)) else (none)) else (none)) else (some (x251000, x251001)) := by
  refine IsLim.unique (spec_l06Lift.l0lim _ _ _ _ _) ?_
  refine IsLim.shift (by rfl) ?_
  show IsLim (fun k => if x7 < x5 then (if 0 ≤ (IntKind.u64.wrap (x7)) then (if 0 ≤ x7 then (if x7 < (x1.length : Int) then (if 0 ≤ (IntKind.u64.wrap (x5)) then (if x251001.length < 17592186044416 then (spec_l06Lift.l0 k x1 x5 (wrap64 (x7 + 1)) x251000 (x251001 ++ [Go.bits .or .i64 (shl .i64 1 (IntKind.u64.wrap (x7))) (shl .i64 (rd x1 x7) (IntKind.u64.wrap (x5)))])) else (none)) else (none)) else (none)) else (none)) else (none)) else (some (x251000, x251001))) _
  repeat' (first | exact IsLim.const _ | refine IsLim.ite ?_ ?_ | refine IsLim.bind ?_ (fun _ => ?_) | exact spec_l06Lift.l0lim ..)
noncomputable def spec_l06Lift.d (a0_0 : Int) (a0_1 : Int) (l1 : List Int) : Option (Int × List Int) := lim (fun k => spec_l06Lift.f k a0_0 a0_1 l1)
theorem spec_l06Lift.lim (a0_0 : Int) (a0_1 : Int) (l1 : List Int) : IsLim (fun k => spec_l06Lift.f k a0_0 a0_1 l1) (spec_l06Lift.d a0_0 a0_1 l1) := lim_spec (fun k => spec_l06Lift.mono a0_0 a0_1 l1 k)
theorem spec_l06Lift.d_eq (a0_0 : Int) (a0_1 : Int) (l1 : List Int) : spec_l06Lift.d a0_0 a0_1 l1 = spec_l06Lift.l0d l1 (l1.length : Int) 0 (wrap64 ((l1.length : Int) + a0_0)) ([] : List Int) := by
  refine IsLim.unique (spec_l06Lift.lim _ _ _) ?_
  unfold spec_l06Lift.f
  repeat' (first | exact IsLim.const _ | refine IsLim.ite ?_ ?_ | refine IsLim.bind ?_ (fun _ => ?_) | exact spec_l06Lift.l0lim ..)
end Go.Proofs.Ytngiionckbmkmaa.P
end
section
namespace Go.Proofs.Ytngiionckbmkmaa.P
open Go.RowKit Go.Proofs.YtngiionckbmkmaaW.PrintWords Go.Proofs.YtngiionckbmkmaaW.PrintLast Go.Proofs.YtngiionckbmkmaaW.PrintMore
set_option linter.unusedVariables false
noncomputable def impl_Field_lift.l0d (x5 : Int) (x16 : List Int) (x17 : Int) (x18 : Int) (x266000 : Int) (x266001 : List Int) : Option (Int × List Int) := lim (fun k => impl_Field_lift.l0 k x5 x16 x17 x18 x266000 x266001)
theorem impl_Field_lift.l0lim (x5 : Int) (x16 : List Int) (x17 : Int) (x18 : Int) (x266000 : Int) (x266001 : List Int) : IsLim (fun k => impl_Field_lift.l0 k x5 x16 x17 x18 x266000 x266001) (impl_Field_lift.l0d x5 x16 x17 x18 x266000 x266001) := lim_spec (fun k => (impl_Field_lift.mono_l k) x5 x16 x17 x18 x266000 x266001)
theorem impl_Field_lift.l0d_eq (x5 : Int) (x16 : List Int) (x17 : Int) (x18 : Int) (x266000 : Int) (x266001 : List Int) : impl_Field_lift.l0d x5 x16 x17 x18 x266000 x266001 = if x18 < x17 then (if 0 ≤ x18 then (if x18 < (x16.length : Int) then (if 0 ≤ x5 then (if x266001.length < 17592186044416 then (impl_Field_lift.l0d x5 x16 x17 (wrap64 (x18 + 1)) x266000 (x266001 ++ [Go.bits .or .i64 (shl .i64 1 x18) (shl .i64 (rd x16 x18) x5)])) else (none)) else (none)) else (none)) else (none)) else (some (x266000, x266001)) := by
  refine IsLim.unique (impl_Field_lift.l0lim _ _ _ _ _ _) ?_
  refine IsLim.shift (by rfl) ?_
  show IsLim (fun k => if x18 < x17 then (if 0 ≤ x18 then (if x18 < (x16.length : Int) then (if 0 ≤ x5 then (if x266001.length < 17592186044416 then (impl_Field_lift.l0 k x5 x16 x17 (wrap64 (x18 + 1)) x266000 (x266001 ++ [Go.bits .or .i64 (shl .i64 1 x18) (shl .i64 (rd x16 x18) x5)])) else (none)) else (none)) else (none)) else (none)) else (some (x266000, x266001))) _
  repeat' (first | exact IsLim.const _ | refine IsLim.ite ?_ ?_ | refine IsLim.bind ?_ (fun _ => ?_) | exact impl_Field_lift.l0lim ..)
noncomputable def impl_Field_lift.d (a0_0 : Int) (a0_1 : Int) (l1 : List Int) : Option (Int × List Int) := lim (fun k => impl_Field_lift.f k a0_0 a0_1 l1)
theorem impl_Field_lift.lim (a0_0 : Int) (a0_1 : Int) (l1 : List Int) : IsLim (fun k => impl_Field_lift.f k a0_0 a0_1 l1) (impl_Field_lift.d a0_0 a0_1 l1) := lim_spec (fun k => impl_Field_lift.mono a0_0 a0_1 l1 k)
theorem impl_Field_lift.d_eq (a0_0 : Int) (a0_1 : Int) (l1 : List Int) : impl_Field_lift.d a0_0 a0_1 l1 = (impl_size_int64_85.f l1).bind fun t264 => (impl_Field_lift.l0d t264 l1 (l1.length : Int) 0 (wrap64 (t264 + a0_0)) ([] : List Int)) := by
  refine IsLim.unique (impl_Field_lift.lim _ _ _) ?_
  unfold impl_Field_lift.f
  repeat' (first | exact IsLim.const _ | refine IsLim.ite ?_ ?_ | refine IsLim.bind ?_ (fun _ => ?_) | exact impl_Field_lift.l0lim ..)
end Go.Proofs.Ytngiionckbmkmaa.P
end
section
namespace Go.Proofs.Ytngiionckbmkmaa.P
open Go.RowKit Go.Proofs.YtngiionckbmkmaaW.PrintWords Go.Proofs.YtngiionckbmkmaaW.PrintLast Go.Proofs.YtngiionckbmkmaaW.PrintMore
set_option linter.unusedVariables false
noncomputable def spec_LiftWord.d (a0_0 : Int) (a0_1 : Int) (l1 : List Int) : Option (Int × List Int × Int) := lim (fun k => spec_LiftWord.f k a0_0 a0_1 l1)
theorem spec_LiftWord.lim (a0_0 : Int) (a0_1 : Int) (l1 : List Int) : IsLim (fun k => spec_LiftWord.f k a0_0 a0_1 l1) (spec_LiftWord.d a0_0 a0_1 l1) := lim_spec (fun k => spec_LiftWord.mono a0_0 a0_1 l1 k)
theorem spec_LiftWord.d_eq (a0_0 : Int) (a0_1 : Int) (l1 : List Int) : spec_LiftWord.d a0_0 a0_1 l1 = (spec_l04Given.d a0_0 a0_1 l1).bind fun t257 => (if t257 = 0 then ((spec_l06Lift.d a0_0 a0_1 l1).bind fun bt258 => (some (bt258.1, bt258.2, 0))) else (some (0, ([] : List Int), t257))) := by
  refine IsLim.unique (spec_LiftWord.lim _ _ _) ?_
  unfold spec_LiftWord.f
  repeat' (first | exact IsLim.const _ | refine IsLim.ite ?_ ?_ | refine IsLim.bind ?_ (fun _ => ?_) | exact spec_l04Given.lim .. | exact spec_l06Lift.lim ..)
noncomputable def impl_LiftWord.d (a0_0 : Int) (a0_1 : Int) (l1 : List Int) : Option (Int × List Int × Int) := lim (fun k => impl_LiftWord.f k a0_0 a0_1 l1)
theorem impl_LiftWord.lim (a0_0 : Int) (a0_1 : Int) (l1 : List Int) : IsLim (fun k => impl_LiftWord.f k a0_0 a0_1 l1) (impl_LiftWord.d a0_0 a0_1 l1) := lim_spec (fun k => impl_LiftWord.mono a0_0 a0_1 l1 k)
theorem impl_LiftWord.d_eq (a0_0 : Int) (a0_1 : Int) (l1 : List Int) : impl_LiftWord.d a0_0 a0_1 l1 = (impl_Field_wordCode.d a0_0 a0_1 (([l1] : List (List Int)))).bind fun t275 => (if t275 = 0 then ((impl_Field_lift.d a0_0 a0_1 l1).bind fun bt276 => (some (bt276.1, bt276.2, 0))) else (some (0, ([] : List Int), t275))) := by
  refine IsLim.unique (impl_LiftWord.lim _ _ _) ?_
  unfold impl_LiftWord.f
  repeat' (first | exact IsLim.const _ | refine IsLim.ite ?_ ?_ | refine IsLim.bind ?_ (fun _ => ?_) | exact impl_Field_wordCode.lim .. | exact impl_Field_lift.lim ..)
end Go.Proofs.Ytngiionckbmkmaa.P
end
section
namespace Go.Proofs.Ytngiionckbmkmaa.P
open Go.RowKit Go.Proofs.YtngiionckbmkmaaW.PrintWords Go.Proofs.YtngiionckbmkmaaW.PrintLast Go.Proofs.YtngiionckbmkmaaW.PrintMore
set_option linter.unusedVariables false
noncomputable def laws_FnExactLiftWord.j0d (x1 : List Int) (x6 : Int) (x7 : List Int) (x9 : Int) (x43 : Bool) (x281000 : Int) (x281001 : Int) (x292000 : Int) (x292001 : List Int) (x303000 : Int) (x303001 : List Int) : Option (Bool) := lim (fun k => laws_FnExactLiftWord.j0 k x1 x6 x7 x9 x43 x281000 x281001 x292000 x292001 x303000 x303001)
theorem laws_FnExactLiftWord.j0lim (x1 : List Int) (x6 : Int) (x7 : List Int) (x9 : Int) (x43 : Bool) (x281000 : Int) (x281001 : Int) (x292000 : Int) (x292001 : List Int) (x303000 : Int) (x303001 : List Int) : IsLim (fun k => laws_FnExactLiftWord.j0 k x1 x6 x7 x9 x43 x281000 x281001 x292000 x292001 x303000 x303001) (laws_FnExactLiftWord.j0d x1 x6 x7 x9 x43 x281000 x281001 x292000 x292001 x303000 x303001) := lim_spec (fun k => (laws_FnExactLiftWord.mono_l k).1 x1 x6 x7 x9 x43 x281000 x281001 x292000 x292001 x303000 x303001)
noncomputable def laws_FnExactLiftWord.j1d (x1 : List Int) (x6 : Int) (x64 : Bool) (x281000 : Int) (x281001 : Int) (x292000 : Int) (x292001 : List Int) (x303000 : Int) (x303001 : List Int) : Option (Bool) := lim (fun k => laws_FnExactLiftWord.j1 k x1 x6 x64 x281000 x281001 x292000 x292001 x303000 x303001)
theorem laws_FnExactLiftWord.j1lim (x1 : List Int) (x6 : Int) (x64 : Bool) (x281000 : Int) (x281001 : Int) (x292000 : Int) (x292001 : List Int) (x303000 : Int) (x303001 : List Int) : IsLim (fun k => laws_FnExactLiftWord.j1 k x1 x6 x64 x281000 x281001 x292000 x292001 x303000 x303001) (laws_FnExactLiftWord.j1d x1 x6 x64 x281000 x281001 x292000 x292001 x303000 x303001) := lim_spec (fun k => (laws_FnExactLiftWord.mono_l k).2.1 x1 x6 x64 x281000 x281001 x292000 x292001 x303000 x303001)
noncomputable def laws_FnExactLiftWord.j2d (x11 : Int) (x92 : Bool) (x303000 : Int) (x303001 : List Int) : Option (Bool) := lim (fun k => laws_FnExactLiftWord.j2 k x11 x92 x303000 x303001)
theorem laws_FnExactLiftWord.j2lim (x11 : Int) (x92 : Bool) (x303000 : Int) (x303001 : List Int) : IsLim (fun k => laws_FnExactLiftWord.j2 k x11 x92 x303000 x303001) (laws_FnExactLiftWord.j2d x11 x92 x303000 x303001) := lim_spec (fun k => (laws_FnExactLiftWord.mono_l k).2.2 x11 x92 x303000 x303001)
theorem laws_FnExactLiftWord.j0d_eq (x1 : List Int) (x6 : Int) (x7 : List Int) (x9 : Int) (x43 : Bool) (x281000 : Int) (x281001 : Int) (x292000 : Int) (x292001 : List Int) (x303000 : Int) (x303001 : List Int) : laws_FnExactLiftWord.j0d x1 x6 x7 x9 x43 x281000 x281001 x292000 x292001 x303000 x303001 = if x43 = true then (some false) else ((laws_toInt64S.d x1).bind fun t304 => ((laws_eqInt64S.d x7 t304).bind fun t307 => (if t307 = true then ((laws_markInt64S.d x7 1).bind fun bt308 => (if bt308.1 < 0 then (laws_FnExactLiftWord.j1d x1 x6 true x281000 x281001 x292000 x292001 x303000 x303001) else ((laws_eqMatrix.d x303000 x303001 x292000 x292001).bind fun t310 => (if t310 = true then (laws_FnExactLiftWord.j1d x1 x6 (x9 != x6) x281000 x281001 x292000 x292001 x303000 x303001) else (laws_FnExactLiftWord.j1d x1 x6 true x281000 x281001 x292000 x292001 x303000 x303001))))) else (some false)))) := by
  refine IsLim.unique (laws_FnExactLiftWord.j0lim _ _ _ _ _ _ _ _ _ _ _) ?_
  refine IsLim.shift (by rfl) ?_
  show IsLim (fun k => if x43 = true then (some false) else ((laws_toInt64S.f k x1).bind fun t304 => ((laws_eqInt64S.f k x7 t304).bind fun t307 => (if t307 = true then ((laws_markInt64S.f k x7 1).bind fun bt308 => (if bt308.1 < 0 then (laws_FnExactLiftWord.j1 k x1 x6 true x281000 x281001 x292000 x292001 x303000 x303001) else ((laws_eqMatrix.f k x303000 x303001 x292000 x292001).bind fun t310 => (if t310 = true then (laws_FnExactLiftWord.j1 k x1 x6 (x9 != x6) x281000 x281001 x292000 x292001 x303000 x303001) else (laws_FnExactLiftWord.j1 k x1 x6 true x281000 x281001 x292000 x292001 x303000 x303001))))) else (some false))))) _
  repeat' (first | exact IsLim.const _ | refine IsLim.ite ?_ ?_ | refine IsLim.bind ?_ (fun _ => ?_) | exact laws_toInt64S.lim .. | exact laws_eqInt64S.lim .. | exact laws_markInt64S.lim .. | exact laws_eqMatrix.lim .. | exact laws_FnExactLiftWord.j1lim ..)
theorem laws_FnExactLiftWord.j1d_eq (x1 : List Int) (x6 : Int) (x64 : Bool) (x281000 : Int) (x281001 : Int) (x292000 : Int) (x292001 : List Int) (x303000 : Int) (x303001 : List Int) : laws_FnExactLiftWord.j1d x1 x6 x64 x281000 x281001 x292000 x292001 x303000 x303001 = if x64 = true then (some false) else ((laws_markMatrix.d x303000 x303001 1).bind fun bt311 => ((laws_heldMatrix.d x303000 bt311.2 1).bind fun t313 => (if t313 < 0 then (some false) else (if t313 = bt311.1 then ((laws_toField.f x281000 x281001).bind fun bt314 => ((laws_toInt64S.d x1).bind fun t316 => ((impl_LiftWord.d bt314.1 bt314.2 t316).bind fun bt319 => ((laws_eqMatrix.d bt319.1 bt319.2.1 x292000 x292001).bind fun t325 => (if t325 = true then (laws_FnExactLiftWord.j2d bt311.1 (bt319.2.2 != x6) x303000 bt311.2) else (laws_FnExactLiftWord.j2d bt311.1 true x303000 bt311.2)))))) else (some false))))) := by
  refine IsLim.unique (laws_FnExactLiftWord.j1lim _ _ _ _ _ _ _ _ _) ?_
  refine IsLim.shift (by rfl) ?_
  show IsLim (fun k => if x64 = true then (some false) else ((laws_markMatrix.f k x303000 x303001 1).bind fun bt311 => ((laws_heldMatrix.f k x303000 bt311.2 1).bind fun t313 => (if t313 < 0 then (some false) else (if t313 = bt311.1 then ((laws_toField.f x281000 x281001).bind fun bt314 => ((laws_toInt64S.f k x1).bind fun t316 => ((impl_LiftWord.f k bt314.1 bt314.2 t316).bind fun bt319 => ((laws_eqMatrix.f k bt319.1 bt319.2.1 x292000 x292001).bind fun t325 => (if t325 = true then (laws_FnExactLiftWord.j2 k bt311.1 (bt319.2.2 != x6) x303000 bt311.2) else (laws_FnExactLiftWord.j2 k bt311.1 true x303000 bt311.2)))))) else (some false)))))) _
  repeat' (first | exact IsLim.const _ | refine IsLim.ite ?_ ?_ | refine IsLim.bind ?_ (fun _ => ?_) | exact laws_markMatrix.lim .. | exact laws_heldMatrix.lim .. | exact laws_toInt64S.lim .. | exact impl_LiftWord.lim .. | exact laws_eqMatrix.lim .. | exact laws_FnExactLiftWord.j2lim ..)
theorem laws_FnExactLiftWord.j2d_eq (x11 : Int) (x92 : Bool) (x303000 : Int) (x303001 : List Int) : laws_FnExactLiftWord.j2d x11 x92 x303000 x303001 = if x92 = true then (some false) else ((laws_heldMatrix.d x303000 x303001 1).bind fun t326 => (if t326 < 0 then (some false) else (if t326 = x11 then (some true) else (some false)))) := by
  refine IsLim.unique (laws_FnExactLiftWord.j2lim _ _ _ _) ?_
  refine IsLim.shift (by rfl) ?_
  show IsLim (fun k => if x92 = true then (some false) else ((laws_heldMatrix.f k x303000 x303001 1).bind fun t326 => (if t326 < 0 then (some false) else (if t326 = x11 then (some true) else (some false))))) _
  repeat' (first | exact IsLim.const _ | refine IsLim.ite ?_ ?_ | refine IsLim.bind ?_ (fun _ => ?_) | exact laws_heldMatrix.lim ..)
noncomputable def laws_FnExactLiftWord.d (a0_0 : Int) (a0_1 : Int) (l1 : List Int) : Option (Bool) := lim (fun k => laws_FnExactLiftWord.f k a0_0 a0_1 l1)
theorem laws_FnExactLiftWord.lim (a0_0 : Int) (a0_1 : Int) (l1 : List Int) : IsLim (fun k => laws_FnExactLiftWord.f k a0_0 a0_1 l1) (laws_FnExactLiftWord.d a0_0 a0_1 l1) := lim_spec (fun k => laws_FnExactLiftWord.mono a0_0 a0_1 l1 k)
theorem laws_FnExactLiftWord.d_eq (a0_0 : Int) (a0_1 : Int) (l1 : List Int) : laws_FnExactLiftWord.d a0_0 a0_1 l1 = if (l1.length : Int) > 1048576 then (some true) else ((laws_toField.f a0_0 a0_1).bind fun bt281 => ((laws_toInt64S.d l1).bind fun t283 => ((spec_LiftWord.d bt281.1 bt281.2 t283).bind fun bt286 => ((laws_toInt64S.d l1).bind fun t292 => ((laws_toField.f a0_0 a0_1).bind fun bt295 => ((impl_LiftWord.d bt295.1 bt295.2 t292).bind fun bt297 => ((laws_eqMatrix.d bt297.1 bt297.2.1 bt286.1 bt286.2.1).bind fun t303 => (if t303 = true then (laws_FnExactLiftWord.j0d l1 bt286.2.2 t292 bt297.2.2 (bt297.2.2 != bt286.2.2) a0_0 a0_1 bt286.1 bt286.2.1 bt297.1 bt297.2.1) else (laws_FnExactLiftWord.j0d l1 bt286.2.2 t292 bt297.2.2 true a0_0 a0_1 bt286.1 bt286.2.1 bt297.1 bt297.2.1))))))))) := by
  refine IsLim.unique (laws_FnExactLiftWord.lim _ _ _) ?_
  unfold laws_FnExactLiftWord.f
  repeat' (first | exact IsLim.const _ | refine IsLim.ite ?_ ?_ | refine IsLim.bind ?_ (fun _ => ?_) | exact laws_toInt64S.lim .. | exact spec_LiftWord.lim .. | exact impl_LiftWord.lim .. | exact laws_eqMatrix.lim .. | exact laws_FnExactLiftWord.j0lim ..)
end Go.Proofs.Ytngiionckbmkmaa.P
end
section
namespace Go.Proofs.Ytngiionckbmkmaa.P
open Go.RowKit Go.Proofs.YtngiionckbmkmaaW.PrintWords Go.Proofs.YtngiionckbmkmaaW.PrintLast Go.Proofs.YtngiionckbmkmaaW.PrintMore
set_option linter.unusedVariables false
theorem wr {x : Int} (h0 : -9223372036854775808 ≤ x) (h1 : x < 9223372036854775808) : wrap64 x = x := by
  unfold wrap64; omega
theorem wrS {i n : Nat} (h : i < n) (hn : n ≤ 17592186044416) : wrap64 ((i : Int) + 1) = ((i + 1 : Nat) : Int) := by rw [wr (by omega) (by omega)]; omega
theorem u64_id {x : Int} (h0 : 0 ≤ x) (h1 : x < 9223372036854775808) : IntKind.u64.wrap x = x := by rw [IntKind.wrap_u64]; omega
theorem down {Q : Nat → Prop} {n : Nat} (h0 : Q n) (hs : ∀ i, i < n → Q (i + 1) → Q i) : ∀ i, i ≤ n → Q i := by
  intro i hi
  obtain ⟨d, hd⟩ : ∃ d, d = n - i := ⟨_, rfl⟩
  induction d generalizing i with
  | zero => have : i = n := by omega
            exact this ▸ h0
  | succ d ih => exact hs i (by omega) (ih (i + 1) (by omega) (by omega))
theorem rd_get {l : List Int} {i : Nat} (h : i < l.length) : rd l (i : Int) = l[i] := rd_at l i h
theorem bind_some' {α β : Type} (a : α) (f : α → Option β) : (some a).bind f = f a := rfl
theorem bind_ok {α β : Type} {x : Option α} {f : α → Option β} {a : α} {b : β} (h : x = some a) (h' : f a = some b) : x.bind f = some b := by rw [h]; exact h'
theorem ite_t {α : Type} {c : Prop} [Decidable c] {a b : Option α} {v : α} (h : c) (h' : a = some v) : (if c then a else b) = some v := by rw [if_pos h]; exact h'
theorem ite_f {α : Type} {c : Prop} [Decidable c] {a b : Option α} {v : α} (h : ¬ c) (h' : b = some v) : (if c then a else b) = some v := by rw [if_neg h]; exact h'
theorem some_bind_ok {α β : Type} {f : α → Option β} {a : α} {b : β} (h' : f a = some b) : (some a).bind f = some b := h'
theorem bind_assoc_ok {α β γ : Type} {x : Option α} {f : α → Option β} {g : β → Option γ} {b : γ} (h : (x.bind fun y => (f y).bind g) = some b) : (x.bind f).bind g = some b := by rw [Option.bind_assoc]; exact h
theorem ite_bind_t {α β : Type} {c : Prop} [Decidable c] {x y : Option α} {g : α → Option β} {b : β} (h : c) (h' : x.bind g = some b) : (if c then x else y).bind g = some b := by rw [if_pos h]; exact h'
theorem ite_bind_f {α β : Type} {c : Prop} [Decidable c] {x y : Option α} {g : α → Option β} {b : β} (h : ¬ c) (h' : y.bind g = some b) : (if c then x else y).bind g = some b := by rw [if_neg h]; exact h'
/-- a, a + 1, .. -/
def iota (a : Int) : Nat → List Int
  | 0 => []
  | n + 1 => a :: iota (a + 1) n
theorem iota_length (a : Int) (n : Nat) : (iota a n).length = n := by
  induction n generalizing a with
  | zero => rfl
  | succ n ih => simp [iota, ih]
theorem iota_get (a : Int) (n : Nat) : ∀ (i : Nat) (h : i < (iota a n).length), (iota a n)[i] = a + i := by
  induction n generalizing a with
  | zero => intro i h; simp [iota] at h
  | succ n ih =>
    intro i h
    cases i with
    | zero => simp [iota]
    | succ i => simp only [iota, List.getElem_cons_succ]; rw [ih]; omega
theorem iota_snoc (a : Int) (n : Nat) : iota a (n + 1) = iota a n ++ [a + n] := by
  induction n generalizing a with
  | zero => simp [iota]
  | succ n ih => rw [iota, ih, iota]; simp; omega

theorem toInt64S_v {l : List Int} (h : l.length ≤ 17592186044416) : laws_toInt64S.d l = some l := by
  have key : ∀ i, i ≤ l.length → laws_toInt64S.l0d l (l.take i ++ List.replicate (l.length - i) 0) (i : Int) = some l := by
    apply down
    · rw [laws_toInt64S.l0d_eq, if_neg (by omega)]; simp
    · intro i hi ih
      rw [laws_toInt64S.l0d_eq, if_pos (by omega), if_pos (by omega), if_pos (by simp; omega), wrS hi h, rd_get hi]
      rw [← ih]
      congr 1
      rw [List.take_succ_eq_append_getElem hi, Int.toNat_natCast]
      apply List.ext_getElem
      · simp; omega
      · intro j h1 h2
        simp only [List.getElem_set, List.getElem_append, List.length_take, List.length_append, List.getElem_take, List.getElem_replicate, List.length_cons, List.length_nil]
        simp only [List.length_set, List.length_append, List.length_take, List.length_replicate] at h1
        by_cases c : i = j
        · subst c; rw [if_pos rfl, dif_pos (by omega), dif_neg (by omega)]; simp
        · rw [if_neg c]
          by_cases c2 : j < i
          · rw [dif_pos (by omega), dif_pos (by omega), dif_pos (by omega)]
          · rw [dif_neg (by omega), dif_neg (by omega)]
  rw [laws_toInt64S.d_eq, if_pos (by omega), if_pos (by omega)]
  have := key 0 (by omega)
  simpa using this
theorem eqInt64S_v {a b : List Int} (h : a.length ≤ 17592186044416) : laws_eqInt64S.d a b = some (decide (a = b)) := by
  rw [laws_eqInt64S.d_eq]
  by_cases hl : a.length = b.length
  · rw [if_pos (by omega)]
    have key : ∀ i, i ≤ a.length → laws_eqInt64S.l0d a b (i : Int) = some (decide (a.drop i = b.drop i)) := by
      apply down
      · rw [laws_eqInt64S.l0d_eq, if_neg (by omega)]; simp [hl]
      · intro i hi ih
        have hb : i < b.length := by omega
        rw [laws_eqInt64S.l0d_eq, if_pos (by omega), if_pos (by omega), if_pos (by omega), wrS hi h, rd_get hi, rd_get hb, ih]
        rw [List.drop_eq_getElem_cons hi, List.drop_eq_getElem_cons hb]
        by_cases c : a[i] = b[i]
        · rw [if_pos c]; simp only [List.cons.injEq, c, true_and]
        · rw [if_neg c]; simp only [List.cons.injEq, c, false_and, decide_false]
    have := key 0 (by omega)
    simpa using this
  · rw [if_neg (by omega)]
    have : a ≠ b := fun e => hl (by rw [e])
    simp [this]
theorem eqInt64S_self {a : List Int} (h : a.length ≤ 17592186044416) : laws_eqInt64S.d a a = some true := by rw [eqInt64S_v h]; simp
/-- a list built by a walk upward -/
theorem build_gen {α R : Type} {F : Int → List α → Option R} {n : Nat} {g : Nat → α} {r : Option R}
    (heq : ∀ i : Nat, i < n → ∀ acc : List α, acc.length = i → F (i : Int) acc = F ((i + 1 : Nat) : Int) (acc ++ [g i]))
    (hend : F (n : Int) ((List.range n).map g) = r) : F 0 [] = r := by
  have key : ∀ i, i ≤ n → F (i : Int) ((List.range i).map g) = r := by
    apply down
    · exact hend
    · intro i hi e
      rw [heq i hi _ (by simp), ← e, List.range_succ, List.map_append]; rfl
  exact key 0 (by omega)
/-- the first place where `q` holds, by a walk upward -/
theorem index_gen {F : Int → Option Int} {n : Nat} {q : Nat → Bool} (hend : F (n : Int) = some (-1))
    (heq : ∀ i : Nat, i < n → F (i : Int) = if q i = true then some (i : Int) else F ((i + 1 : Nat) : Int)) :
    ∃ v, F 0 = some v ∧ (decide (v ≥ 0) = !decide (∀ i, i < n → q i = false)) ∧ (0 ≤ v → v.toNat < n ∧ q v.toNat = true ∧ ∀ j, j < v.toNat → q j = false) := by
  have key : ∀ i, i ≤ n → ∃ v, F (i : Int) = some v ∧ (v ≥ 0 ↔ ¬ ∀ j, i ≤ j → j < n → q j = false) ∧ (0 ≤ v → i ≤ v.toNat ∧ v.toNat < n ∧ q v.toNat = true ∧ ∀ j, i ≤ j → j < v.toNat → q j = false) := by
    apply down
    · exact ⟨-1, hend, ⟨fun h => absurd h (by decide), fun h => absurd (fun j _ _ => by omega) h⟩, fun h => absurd h (by decide)⟩
    · intro i hi ⟨v, e, c, d⟩
      rw [heq i hi]
      by_cases hq : q i = true
      · rw [if_pos hq]
        exact ⟨i, rfl, ⟨fun _ h => (by rw [h i (by omega) hi] at hq; cases hq), fun _ => by omega⟩, fun _ => ⟨by simp, by simpa using hi, by simpa using hq, fun j h1 h2 => by simp at h2; omega⟩⟩
      · rw [if_neg hq]
        have hq' : q i = false := Bool.eq_false_iff.mpr hq
        refine ⟨v, e, c.trans ⟨fun h h' => h fun j a b => h' j (by omega) b, fun h h' => h fun j a b => ?_⟩, fun h => ?_⟩
        · rcases Nat.lt_or_ge i j with z | z
          · exact h' j z b
          · have : j = i := by omega
            rw [this, hq']
        · obtain ⟨a1, a2, a3, a4⟩ := d h
          refine ⟨by omega, a2, a3, fun j h1 h2 => ?_⟩
          rcases Nat.lt_or_ge i j with z | z
          · exact a4 j z h2
          · have : j = i := by omega
            rw [this, hq']
  obtain ⟨v, e, c, d⟩ := key 0 (by omega)
  refine ⟨v, e, ?_, fun h => ⟨(d h).2.1, (d h).2.2.1, fun j hj => (d h).2.2.2 j (by omega) hj⟩⟩
  rw [← decide_not]
  apply decide_eq_decide.mpr
  exact c.trans ⟨fun h h' => h fun j _ b => h' j b, fun h h' => h fun j b => h' j (by omega) b⟩
theorem all_gen {F : Int → Option Bool} {n : Nat} {q : Nat → Bool} (hend : F (n : Int) = some true)
    (heq : ∀ i : Nat, i < n → F (i : Int) = if q i = true then F ((i + 1 : Nat) : Int) else some false) :
    F 0 = some (decide (∀ i, i < n → q i = true)) := by
  have key : ∀ i, i ≤ n → ∃ b, F (i : Int) = some b ∧ (b = true ↔ ∀ j, i ≤ j → j < n → q j = true) := by
    apply down
    · exact ⟨true, hend, ⟨fun _ j a b => by omega, fun _ => rfl⟩⟩
    · intro i hi ⟨b, e, c⟩
      rw [heq i hi, e]
      by_cases hq : q i = true
      · rw [if_pos hq]
        refine ⟨b, rfl, c.trans ⟨fun h j a b => ?_, fun h j a b => h j (by omega) b⟩⟩
        rcases Nat.lt_or_ge i j with z | z
        · exact h j z b
        · have : j = i := by omega
          rw [this, hq]
      · rw [if_neg hq]
        exact ⟨false, rfl, ⟨(fun h => absurd h (by decide)), fun h => absurd (h i (by omega) hi) hq⟩⟩
  obtain ⟨b, e, c⟩ := key 0 (by omega)
  have e' : F 0 = some b := e
  rw [e']
  congr 1
  rw [Bool.eq_iff_iff, decide_eq_true_iff]
  exact c.trans ⟨fun h j b => h j (by omega) b, fun h j _ b => h j b⟩
theorem all_get {l : List Int} {q : Int → Bool} : decide (∀ i, i < l.length → q (rd l (i : Int)) = true) = l.all q := by
  rw [Bool.eq_iff_iff, decide_eq_true_iff, List.all_eq_true]
  constructor
  · intro h x hx
    obtain ⟨i, hi, e⟩ := List.getElem_of_mem hx
    have := h i hi
    rwa [rd_get hi, e] at this
  · intro h i hi
    rw [rd_get hi]; exact h _ (List.getElem_mem hi)

end Go.Proofs.Ytngiionckbmkmaa.P
end
section
namespace Go.Proofs.Ytngiionckbmkmaa.P
open Go.RowKit Go.Proofs.YtngiionckbmkmaaW.PrintWords Go.Proofs.YtngiionckbmkmaaW.PrintLast Go.Proofs.YtngiionckbmkmaaW.PrintMore
set_option linter.unusedVariables false
theorem markInt64S_v {l : List Int} {a : Int} (h : l.length ≤ 17592186044416) (h0 : 0 ≤ a) (h1 : a ≤ 4611686018427387904) :
    laws_markInt64S.d l a = some (a + l.length, iota a l.length) := by
  have key : ∀ i, i ≤ l.length → laws_markInt64S.l0d (iota a i ++ l.drop i) (a + i) (i : Int) = some (a + l.length, iota a l.length) := by
    apply down
    · rw [laws_markInt64S.l0d_eq, if_neg (by simp [iota_length])]; simp
    · intro i hi ih
      rw [laws_markInt64S.l0d_eq, if_pos (by simp [iota_length]; omega), if_pos (by omega), wrS hi h, wr (x := a + i + 1) (by omega) (by omega), ← ih]
      congr 1
      · rw [iota_snoc, Int.toNat_natCast, List.set_append]
        simp only [iota_length, Nat.lt_irrefl, if_false, Nat.sub_self]
        rw [List.drop_eq_getElem_cons hi]
        simp only [List.set_cons_zero, List.append_assoc, List.singleton_append]
      · omega
  rw [laws_markInt64S.d_eq]
  have := key 0 (by omega)
  simpa [iota] using this
theorem heldInt64S_v {n : Nat} {a : Int} (h : n ≤ 17592186044416) (h0 : 0 ≤ a) (h1 : a ≤ 4611686018427387904) :
    laws_heldInt64S.d (iota a n) a = some (a + n) := by
  have key : ∀ i, i ≤ n → laws_heldInt64S.l0d (iota a n) (a + i) (i : Int) = some (a + n) := by
    apply down
    · rw [laws_heldInt64S.l0d_eq, if_neg (by simp [iota_length])]
    · intro i hi ih
      have hi' : i < (iota a n).length := by rw [iota_length]; exact hi
      rw [laws_heldInt64S.l0d_eq, if_pos (by omega), if_pos (by omega), rd_get hi', iota_get, if_pos rfl, wrS hi h, wr (x := a + i + 1) (by omega) (by omega), ← ih]
      congr 1; omega
  rw [laws_heldInt64S.d_eq]
  have := key 0 (by omega)
  simpa using this
end Go.Proofs.Ytngiionckbmkmaa.P
end
section
namespace Go.Proofs.Ytngiionckbmkmaa.P
open Go.RowKit Go.Proofs.YtngiionckbmkmaaW.PrintWords Go.Proofs.YtngiionckbmkmaaW.PrintLast Go.Proofs.YtngiionckbmkmaaW.PrintMore
set_option linter.unusedVariables false
/-- the irreducible polynomials of degree 1 .. 5, as numbers -/
def irrs : List Int := [2, 3, 7, 11, 13, 19, 25, 31, 37, 41, 47, 55, 59, 61]
def irrB (p : Int) : Bool := irrs.contains p
/-- the fields: degree and polynomial -/
def fields14 : List (Int × Int) := [(1, 2), (1, 3), (2, 7), (3, 11), (3, 13), (4, 19), (4, 25), (4, 31), (5, 37), (5, 41), (5, 47), (5, 55), (5, 59), (5, 61)]
def validB (m p : Int) : Bool := fields14.contains (m, p)
theorem of_range {P : Int → Prop} (n : Nat) (lo : Int) (h : ∀ i, i < n → P (lo + i)) : ∀ x, lo ≤ x → x < lo + n → P x := by
  intro x h0 h1
  have := h (x - lo).toNat (by omega)
  rwa [show lo + ((x - lo).toNat : Int) = x by omega] at this
theorem i_irr_small : ∀ i, i < 62 → impl_IsIrreducible.f 80 (2 + (i : Nat)) = some (irrB (2 + (i : Nat))) := by decide +kernel
theorem s_irr_small : ∀ i, i < 62 → spec_IsIrreducible.f 80 (2 + (i : Nat)) = some (irrB (2 + (i : Nat))) := by decide +kernel
theorem irrB_big {p : Int} (h : p < 2 ∨ 64 ≤ p) : irrB p = false := by
  have : p ∉ irrs := by
    have hb : ∀ q ∈ irrs, 2 ≤ q ∧ q < 64 := by decide +kernel
    intro hp
    have := hb p hp
    omega
  unfold irrB
  rw [List.contains_eq_mem, decide_eq_false this]
theorem i_IsIrreducible_v (p : Int) : impl_IsIrreducible.d p = some (irrB p) := by
  by_cases h : p < 2
  · rw [impl_IsIrreducible.d_eq, if_pos h, impl_IsIrreducible.j0d_eq, if_pos rfl, irrB_big (.inl h)]
  · by_cases h2 : p < 64
    · have := of_range (P := fun p => impl_IsIrreducible.f 80 p = some (irrB p)) 62 2 i_irr_small p (by omega) (by omega)
      exact ((impl_IsIrreducible.lim p).2 _).mpr ⟨_, this⟩
    · rw [impl_IsIrreducible.d_eq, if_neg h, impl_IsIrreducible.j0d_eq, if_pos (by simp; omega), irrB_big (.inr (by omega))]
theorem s_IsIrreducible_v (p : Int) : spec_IsIrreducible.d p = some (irrB p) := by
  by_cases h : p < 64
  · by_cases h2 : 2 ≤ p
    · have := of_range (P := fun p => spec_IsIrreducible.f 80 p = some (irrB p)) 62 2 s_irr_small p (by omega) (by omega)
      exact ((spec_IsIrreducible.lim p).2 _).mpr ⟨_, this⟩
    · by_cases h3 : p = 1
      · subst h3; exact ((spec_IsIrreducible.lim 1).2 _).mpr ⟨80, by decide +kernel⟩
      · rw [spec_IsIrreducible.d_eq, if_neg (by omega), irrB_big (.inl (by omega))]
  · rw [spec_IsIrreducible.d_eq, if_pos (by omega), if_neg h, irrB_big (.inr (by omega))]
theorem irrB_mem {p : Int} (h : irrB p = true) : p ∈ irrs := by simpa [irrB] using h
theorem i_deg_irr {p : Int} (h : irrB p = true) : ∀ m, ((m, p) ∈ fields14) = (impl_degreeOf.d p = some m) := by
  have h := irrB_mem h
  have key : ∀ p ∈ irrs, ∃ m, impl_degreeOf.f 80 p = some m ∧ (m, p) ∈ fields14 ∧ ∀ m', (m', p) ∈ fields14 → m' = m := by
    have : ∀ p ∈ irrs, ∃ m ∈ [1, 2, 3, 4, 5], impl_degreeOf.f 80 p = some m ∧ (m, p) ∈ fields14 ∧ ∀ f ∈ fields14, f.2 = p → f.1 = m := by decide +kernel
    intro p hp
    obtain ⟨m, _, a, b, c⟩ := this p hp
    exact ⟨m, a, b, fun m' h' => c (m', p) h' rfl⟩
  intro m
  obtain ⟨m0, a, b, c⟩ := key p h
  have e : impl_degreeOf.d p = some m0 := ((impl_degreeOf.lim p).2 _).mpr ⟨_, a⟩
  rw [e]
  apply propext
  exact ⟨fun h => by rw [c m h], fun h => by cases h; exact b⟩
theorem s_deg_irr {p : Int} (h : irrB p = true) : ∀ m, ((m, p) ∈ fields14) = (spec_l01Degree.d p = some m) := by
  have h := irrB_mem h
  have key : ∀ p ∈ irrs, ∃ m, spec_l01Degree.f 80 p = some m ∧ (m, p) ∈ fields14 ∧ ∀ m', (m', p) ∈ fields14 → m' = m := by
    have : ∀ p ∈ irrs, ∃ m ∈ [1, 2, 3, 4, 5], spec_l01Degree.f 80 p = some m ∧ (m, p) ∈ fields14 ∧ ∀ f ∈ fields14, f.2 = p → f.1 = m := by decide +kernel
    intro p hp
    obtain ⟨m, _, a, b, c⟩ := this p hp
    exact ⟨m, a, b, fun m' h' => c (m', p) h' rfl⟩
  intro m
  obtain ⟨m0, a, b, c⟩ := key p h
  have e : spec_l01Degree.d p = some m0 := ((spec_l01Degree.lim p).2 _).mpr ⟨_, a⟩
  rw [e]
  apply propext
  exact ⟨fun h => by rw [c m h], fun h => by cases h; exact b⟩
theorem deg_some {p : Int} (h : irrB p = true) : ∃ m, (m, p) ∈ fields14 := by
  have : ∀ p ∈ irrs, ∃ m ∈ [1, 2, 3, 4, 5], ((m, p) : Int × Int) ∈ fields14 := by decide +kernel
  obtain ⟨m, _, hm⟩ := this p (irrB_mem h)
  exact ⟨m, hm⟩
theorem fields_facts : ∀ f ∈ fields14, (1 ≤ f.1 ∧ f.1 ≤ 5) ∧ irrB f.2 = true := by decide +kernel
theorem valid_facts {m p : Int} (h : validB m p = true) : 1 ≤ m ∧ m ≤ 5 ∧ irrB p = true := by
  have h' : (m, p) ∈ fields14 := by simpa [validB] using h
  have := fields_facts _ h'
  exact ⟨this.1.1, this.1.2, this.2⟩
theorem validB_eq {m p : Int} : validB m p = decide ((m, p) ∈ fields14) := by simp [validB, List.contains_eq_mem]
theorem i_ValidField_v (m p : Int) : impl_ValidField.d m p = some (validB m p) := by
  rw [impl_ValidField.d_eq]
  unfold impl_within.f
  by_cases h1 : m ≥ 1
  · rw [if_pos h1, bind_some']
    by_cases h5 : m ≤ 5
    · rw [if_pos (by simpa using h5), i_IsIrreducible_v, bind_some']
      by_cases hi : irrB p = true
      · rw [if_pos hi]
        obtain ⟨m0, hm0⟩ := deg_some hi
        rw [i_deg_irr hi] at hm0
        rw [hm0, bind_some', validB_eq]
        have := i_deg_irr hi m
        rw [hm0] at this
        congr 1
        simp only [this, Option.some.injEq]
        by_cases e : m0 = m
        · simp [e]
        · simp [e]
      · rw [if_neg hi]
        congr 1
        have : ¬ validB m p = true := fun h => hi (valid_facts h).2.2
        exact (Bool.eq_false_iff.mpr this).symm
    · rw [if_neg (by simpa using h5)]
      have : ¬ validB m p = true := fun h => h5 (valid_facts h).2.1
      rw [Bool.eq_false_iff.mpr this]
  · rw [if_neg h1, bind_some', if_neg (by decide)]
    have : ¬ validB m p = true := fun h => h1 (valid_facts h).1
    rw [Bool.eq_false_iff.mpr this]
theorem s_l01Ok_v (m p : Int) : spec_l01Ok.d m p = some (validB m p) := by
  rw [spec_l01Ok.d_eq]
  unfold spec_l00In.f
  by_cases h1 : m ≥ 1
  · rw [if_pos h1, bind_some']
    by_cases h5 : m ≤ 5
    · rw [if_pos (by simpa using h5), s_IsIrreducible_v, bind_some']
      by_cases hi : irrB p = true
      · rw [if_pos hi]
        obtain ⟨m0, hm0⟩ := deg_some hi
        rw [s_deg_irr hi] at hm0
        rw [hm0, bind_some', validB_eq]
        have := s_deg_irr hi m
        rw [hm0] at this
        congr 1
        simp only [this, Option.some.injEq]
        by_cases e : m0 = m
        · simp [e]
        · simp [e]
      · rw [if_neg hi]
        congr 1
        have : ¬ validB m p = true := fun h => hi (valid_facts h).2.2
        exact (Bool.eq_false_iff.mpr this).symm
    · rw [if_neg (by simpa using h5)]
      have : ¬ validB m p = true := fun h => h5 (valid_facts h).2.1
      rw [Bool.eq_false_iff.mpr this]
  · rw [if_neg h1, bind_some', if_neg (by decide)]
    have : ¬ validB m p = true := fun h => h1 (valid_facts h).1
    rw [Bool.eq_false_iff.mpr this]
end Go.Proofs.Ytngiionckbmkmaa.P
end
section
namespace Go.Proofs.Ytngiionckbmkmaa.P
open Go.RowKit Go.Proofs.YtngiionckbmkmaaW.PrintWords Go.Proofs.YtngiionckbmkmaaW.PrintLast Go.Proofs.YtngiionckbmkmaaW.PrintMore
set_option linter.unusedVariables false
/-- an element of the field of degree m -/
def elemB (m x : Int) : Bool := decide (0 ≤ x) && decide (x < 2 ^ m.toNat)
theorem m_cases {m p : Int} (h : validB m p = true) : m = 1 ∨ m = 2 ∨ m = 3 ∨ m = 4 ∨ m = 5 := by
  have := valid_facts h; omega
theorem i_count_v {m p : Int} (h : validB m p = true) (q : Int) : impl_Field_count.f m q = some (2 ^ m.toNat) := by
  rcases m_cases h with rfl | rfl | rfl | rfl | rfl <;> rfl
theorem s_l01Size_v {m p : Int} (h : validB m p = true) (q : Int) : spec_l01Size.f m q = some (2 ^ m.toNat) := by
  rcases m_cases h with rfl | rfl | rfl | rfl | rfl <;> rfl
theorem pow_bound {m p : Int} (h : validB m p = true) : (2 : Int) ≤ 2 ^ m.toNat ∧ (2 : Int) ^ m.toNat ≤ 32 := by
  rcases m_cases h with rfl | rfl | rfl | rfl | rfl <;> decide
theorem i_has_1_v {m p : Int} (h : validB m p = true) (q x : Int) : impl_Field_has_1.f x m q = some (!(elemB m x)) := by
  unfold impl_Field_has_1.f impl_within.f elemB
  have hb := pow_bound h
  rw [i_count_v h, bind_some', wr (by omega) (by omega)]
  by_cases c : 0 ≤ x
  · rw [if_pos (by omega), bind_some']
    simp only [decide_eq_true c, Bool.true_and]
    congr 2
    apply decide_eq_decide.mpr; omega
  · rw [if_neg (by omega), bind_some']
    simp only [decide_eq_false c, Bool.false_and]
theorem i_has_v {m p : Int} (h : validB m p = true) (q : Int) {l : List Int} (hl : l.length ≤ 17592186044416) : impl_Field_has.d m q l = some (l.all (elemB m)) := by
  rw [impl_Field_has.d_eq, slices_ContainsFunc_int64_int64_AT_impl_Field_has_1.d_eq, slices_IndexFunc_int64_int64_AT_impl_Field_has_1.d_eq]
  obtain ⟨v, e, c, _⟩ := index_gen (F := fun i => slices_IndexFunc_int64_int64_AT_impl_Field_has_1.l0d l (l.length : Int) i m q) (n := l.length) (q := fun i => !(elemB m (rd l (i : Int))))
    (by show slices_IndexFunc_int64_int64_AT_impl_Field_has_1.l0d l (l.length : Int) (l.length : Int) m q = _
        rw [slices_IndexFunc_int64_int64_AT_impl_Field_has_1.l0d_eq, if_neg (by omega)])
    (by intro i hi
        show slices_IndexFunc_int64_int64_AT_impl_Field_has_1.l0d l (l.length : Int) (i : Int) m q = _
        rw [slices_IndexFunc_int64_int64_AT_impl_Field_has_1.l0d_eq, if_pos (by omega), if_pos (by omega), if_pos (by omega), i_has_1_v h, bind_some', wrS hi hl])
  have e' : slices_IndexFunc_int64_int64_AT_impl_Field_has_1.l0d l (l.length : Int) 0 m q = some v := e
  rw [e', bind_some', bind_some', c, Bool.not_not]
  congr 1
  rw [← all_get]
  apply decide_eq_decide.mpr
  simp only [Bool.not_eq_false']
theorem s_l04Elements_v {m p : Int} (h : validB m p = true) (q : Int) {l : List Int} (hl : l.length ≤ 17592186044416) : spec_l04Elements.d m q l = some (l.all (elemB m)) := by
  have hb := pow_bound h
  rw [spec_l04Elements.d_eq]
  have := all_gen (F := fun i => spec_l04Elements.l0d l i m q) (n := l.length) (q := fun i => elemB m (rd l (i : Int)))
    (by show spec_l04Elements.l0d l (l.length : Int) m q = _
        rw [spec_l04Elements.l0d_eq, if_neg (by omega)])
    (by intro i hi
        show spec_l04Elements.l0d l (i : Int) m q = _
        have e : spec_l00In.f (rd l (i : Int)) 0 (2 ^ m.toNat - 1) = some (elemB m (rd l (i : Int))) := by
          unfold spec_l00In.f elemB
          by_cases c : rd l (i : Int) ≥ 0
          · rw [if_pos c]
            simp only [decide_eq_true (show 0 ≤ rd l (i : Int) from c), Bool.true_and]
            congr 1
            apply decide_eq_decide.mpr; omega
          · rw [if_neg c]
            simp only [decide_eq_false (show ¬ 0 ≤ rd l (i : Int) from c), Bool.false_and]
        rw [spec_l04Elements.l0d_eq, if_pos (by omega), if_pos (by omega), s_l01Size_v h, bind_some', wr (by omega) (by omega), e, bind_some', wrS hi hl])
  have this' : spec_l04Elements.l0d l 0 m q = some (decide (∀ i, i < l.length → elemB m (rd l (i : Int)) = true)) := this
  rw [this']
  congr 1
  exact all_get
def wordB (m : Int) (l : List Int) : Bool := (decide (1 ≤ l.length) && decide (l.length ≤ 5)) && l.all (elemB m)
theorem s_l04Word_v {m p : Int} (h : validB m p = true) (q : Int) {l : List Int} (hl : l.length ≤ 17592186044416) : spec_l04Word.d m q l = some (wordB m l) := by
  rw [spec_l04Word.d_eq]
  unfold spec_l00In.f wordB
  by_cases c : 1 ≤ l.length
  · rw [if_pos (by omega), bind_some']
    by_cases d : l.length ≤ 5
    · rw [if_pos (by simp; omega), s_l04Elements_v h q hl, bind_some']; simp [c, d]
    · rw [if_neg (by simp; omega)]; simp [d]
  · rw [if_neg (by omega), bind_some', if_neg (by decide)]; simp [c]
theorem i_isWord_v {m p : Int} (h : validB m p = true) (q : Int) {l : List Int} (hl : l.length ≤ 17592186044416) : impl_Field_isWord.d m q l = some (wordB m l) := by
  rw [impl_Field_isWord.d_eq]
  unfold impl_size_int64_85.f impl_within.f wordB
  rw [bind_some']
  by_cases c : 1 ≤ l.length
  · rw [if_pos (by omega), bind_some']
    by_cases d : l.length ≤ 5
    · rw [if_pos (by simp; omega), i_has_v h q hl, bind_some']; simp [c, d]
    · rw [if_neg (by simp; omega)]; simp [d]
  · rw [if_neg (by omega), bind_some', if_neg (by decide)]; simp [c]
/-- what both tell of a word handed in alone: 0, 1 (no field), 2 (no word) -/
def wordCode (m p : Int) (l : List Int) : Int := if validB m p = true then (if wordB m l = true then 0 else 2) else 1
theorem s_l04Given_v (m p : Int) {l : List Int} (hl : l.length ≤ 17592186044416) : spec_l04Given.d m p l = some (wordCode m p l) := by
  rw [spec_l04Given.d_eq, s_l01Ok_v, bind_some']
  unfold wordCode
  by_cases h : validB m p = true
  · rw [if_pos h, if_pos h, s_l04Word_v h p hl, bind_some']
    by_cases c : wordB m l = true
    · rw [if_pos c, if_pos c]
    · rw [if_neg c, if_neg c]
  · rw [if_neg h, if_neg h]
theorem i_wordCode_v (m p : Int) {l : List Int} (hl : l.length ≤ 17592186044416) : impl_Field_wordCode.d m p [l] = some (wordCode m p l) := by
  rw [impl_Field_wordCode.d_eq, i_ValidField_v, bind_some']
  unfold wordCode
  by_cases h : validB m p = true
  · rw [if_pos h, if_pos h, slices_ContainsFunc_int64_int64_AT_impl_Field_wordCode_1.d_eq, slices_IndexFunc_int64_int64_AT_impl_Field_wordCode_1.d_eq]
    have hq : impl_Field_wordCode_1.d (rd_L1 [l] 0) m p [l] = some (!(wordB m l)) := by
      rw [impl_Field_wordCode_1.d_eq]
      show (impl_Field_isWord.d m p l).bind _ = _
      rw [i_isWord_v h p hl, bind_some']
      by_cases c : wordB m l = true
      · rw [if_pos c, if_pos (by simp)]
        show some ((l.length : Int) != (l.length : Int)) = _
        simp [c]
      · rw [if_neg c]; simp [Bool.eq_false_iff.mpr c]
    rw [slices_IndexFunc_int64_int64_AT_impl_Field_wordCode_1.l0d_eq, if_pos (by simp), if_pos (by omega), if_pos (by simp), hq, bind_some']
    by_cases c : wordB m l = true
    · rw [if_neg (by simp [c]), slices_IndexFunc_int64_int64_AT_impl_Field_wordCode_1.l0d_eq, if_neg (by rw [wr (by omega) (by omega)]; simp)]
      rw [bind_some', bind_some', if_neg (by decide), if_pos c]
    · rw [if_pos (by simp [c]), bind_some', bind_some', if_pos (by decide), if_neg c]
  · rw [if_neg h, if_neg h]
end Go.Proofs.Ytngiionckbmkmaa.P
end
section
namespace Go.Proofs.Ytngiionckbmkmaa.P
open Go.RowKit Go.Proofs.YtngiionckbmkmaaW.PrintWords Go.Proofs.YtngiionckbmkmaaW.PrintLast Go.Proofs.YtngiionckbmkmaaW.PrintMore
set_option linter.unusedVariables false
def liftRows (l : List Int) : List Int := (List.range l.length).map fun (i : Nat) => Go.bits .or .i64 (shl .i64 1 (i : Int)) (shl .i64 (rd l (i : Int)) (l.length : Int))
theorem liftRows_length (l : List Int) : (liftRows l).length = l.length := by simp [liftRows]
theorem s_l06Lift_v (m p : Int) {l : List Int} (hl : l.length ≤ 1048576) : spec_l06Lift.d m p l = some (wrap64 ((l.length : Int) + m), liftRows l) := by
  rw [spec_l06Lift.d_eq]
  refine build_gen (F := fun i acc => spec_l06Lift.l0d l (l.length : Int) i (wrap64 ((l.length : Int) + m)) acc) (n := l.length) (g := fun (i : Nat) => Go.bits .or .i64 (shl .i64 1 (i : Int)) (shl .i64 (rd l (i : Int)) (l.length : Int))) ?_ ?_
  · intro i hi acc ha
    show spec_l06Lift.l0d l (l.length : Int) (i : Int) (wrap64 ((l.length : Int) + m)) acc = _
    rw [spec_l06Lift.l0d_eq, u64_id (by omega) (by omega), u64_id (by omega) (by omega), if_pos (by omega), if_pos (by omega), if_pos (by omega), if_pos (by omega), if_pos (by omega), if_pos (by omega), wrS hi (by omega)]
  · show spec_l06Lift.l0d l (l.length : Int) (l.length : Int) (wrap64 ((l.length : Int) + m)) _ = _
    rw [spec_l06Lift.l0d_eq, if_neg (by omega)]; rfl
theorem i_lift_v (m p : Int) {l : List Int} (hl : l.length ≤ 1048576) : impl_Field_lift.d m p l = some (wrap64 ((l.length : Int) + m), liftRows l) := by
  rw [impl_Field_lift.d_eq]
  unfold impl_size_int64_85.f
  rw [bind_some']
  refine build_gen (F := fun i acc => impl_Field_lift.l0d (l.length : Int) l (l.length : Int) i (wrap64 ((l.length : Int) + m)) acc) (n := l.length) (g := fun (i : Nat) => Go.bits .or .i64 (shl .i64 1 (i : Int)) (shl .i64 (rd l (i : Int)) (l.length : Int))) ?_ ?_
  · intro i hi acc ha
    show impl_Field_lift.l0d (l.length : Int) l (l.length : Int) (i : Int) (wrap64 ((l.length : Int) + m)) acc = _
    rw [impl_Field_lift.l0d_eq, if_pos (by omega), if_pos (by omega), if_pos (by omega), if_pos (by omega), if_pos (by omega), wrS hi (by omega)]
  · show impl_Field_lift.l0d (l.length : Int) l (l.length : Int) (l.length : Int) (wrap64 ((l.length : Int) + m)) _ = _
    rw [impl_Field_lift.l0d_eq, if_neg (by omega)]; rfl
end Go.Proofs.Ytngiionckbmkmaa.P
end
section
namespace Go.Proofs.Ytngiionckbmkmaa.P
open Go.RowKit Go.Proofs.YtngiionckbmkmaaW.PrintWords Go.Proofs.YtngiionckbmkmaaW.PrintLast Go.Proofs.YtngiionckbmkmaaW.PrintMore
set_option linter.unusedVariables false
theorem s_LiftWord_v (m p : Int) {l : List Int} (hl : l.length ≤ 1048576) :
    spec_LiftWord.d m p l = some (if wordCode m p l = 0 then (wrap64 ((l.length : Int) + m), liftRows l, 0) else (0, [], wordCode m p l)) := by
  rw [spec_LiftWord.d_eq, s_l04Given_v m p (by omega), bind_some']
  by_cases h : wordCode m p l = 0
  · rw [if_pos h, if_pos h, s_l06Lift_v m p hl]; rfl
  · rw [if_neg h, if_neg h]
theorem i_LiftWord_v (m p : Int) {l : List Int} (hl : l.length ≤ 1048576) :
    impl_LiftWord.d m p l = some (if wordCode m p l = 0 then (wrap64 ((l.length : Int) + m), liftRows l, 0) else (0, [], wordCode m p l)) := by
  rw [impl_LiftWord.d_eq, i_wordCode_v m p (by omega), bind_some']
  by_cases h : wordCode m p l = 0
  · rw [if_pos h, if_pos h, i_lift_v m p hl]; rfl
  · rw [if_neg h, if_neg h]
theorem LiftWord_law (m p : Int) (l : List Int) : laws_FnExactLiftWord.d m p l = some true := by
  by_cases hl : ¬ l.length ≤ 1048576
  · skip
    repeat' (first
      | with_reducible exact rfl
      | dsimp only
      | with_reducible refine bind_ok (eqInt64S_self (by omega)) ?_
      | with_reducible refine bind_ok (toInt64S_v (by omega)) ?_
      | with_reducible refine bind_ok (heldInt64S_v (by omega) (by omega) (by omega)) ?_
      | with_reducible refine bind_ok (markInt64S_v (by omega) (by omega) (by omega)) ?_
      | with_reducible refine some_bind_ok ?_
      | with_reducible refine ite_bind_t (by first | with_reducible exact rfl | omega) ?_
      | with_reducible refine ite_bind_f (by first | omega | decide | (simp; done)) ?_
      | with_reducible refine bind_assoc_ok ?_
      | with_reducible refine ite_t (by first | with_reducible exact rfl | omega) ?_
      | with_reducible refine ite_f (by first | omega | decide | (simp; done)) ?_
      | rw [laws_FnExactLiftWord.j0d_eq]
      | rw [laws_FnExactLiftWord.j1d_eq]
      | rw [laws_FnExactLiftWord.j2d_eq]
      | rw [laws_FnExactLiftWord.d_eq]
      | rw [laws_eqMatrix.d_eq]
      | unfold laws_toField.f
      | rw [laws_heldMatrix.d_eq]
      | rw [laws_markMatrix.d_eq]
      )
  replace hl := Classical.not_not.mp hl
  have key : ∃ r : Int × List Int × Int, (r.2.1.length ≤ 17592186044416) ∧ spec_LiftWord.d m p l = some r ∧ impl_LiftWord.d m p l = some r := by
    refine ⟨_, ?_, s_LiftWord_v m p hl, i_LiftWord_v m p hl⟩
    by_cases h : wordCode m p l = 0
    · rw [if_pos h]; show (liftRows l).length ≤ _; rw [liftRows_length]; omega
    · rw [if_neg h]; simp
  obtain ⟨r, hb, hS, hI⟩ := key
  obtain ⟨r0, r1, r2⟩ := r
  simp only at hb
  repeat' (first
    | with_reducible exact rfl
    | dsimp only
    | refine bind_ok hS ?_
    | refine bind_ok hI ?_
    | with_reducible refine bind_ok (eqInt64S_self (by omega)) ?_
    | with_reducible refine bind_ok (toInt64S_v (by omega)) ?_
    | with_reducible refine bind_ok (heldInt64S_v (by omega) (by omega) (by omega)) ?_
    | with_reducible refine bind_ok (markInt64S_v (by omega) (by omega) (by omega)) ?_
    | with_reducible refine some_bind_ok ?_
    | with_reducible refine ite_bind_t (by first | with_reducible exact rfl | omega) ?_
    | with_reducible refine ite_bind_f (by first | omega | decide | (simp; done)) ?_
    | with_reducible refine bind_assoc_ok ?_
    | with_reducible refine ite_t (by first | with_reducible exact rfl | omega) ?_
    | with_reducible refine ite_f (by first | omega | decide | (simp; done)) ?_
    | rw [laws_FnExactLiftWord.j0d_eq]
    | rw [laws_FnExactLiftWord.j1d_eq]
    | rw [laws_FnExactLiftWord.j2d_eq]
    | rw [laws_FnExactLiftWord.d_eq]
    | rw [laws_eqMatrix.d_eq]
    | unfold laws_toField.f
    | rw [laws_heldMatrix.d_eq]
    | rw [laws_markMatrix.d_eq]
    )
end Go.Proofs.Ytngiionckbmkmaa.P
end
section
namespace Go.Proofs.Ytngiionckbmkmaa.P
open Go.RowKit Go.Proofs.YtngiionckbmkmaaW.PrintWords Go.Proofs.YtngiionckbmkmaaW.PrintLast Go.Proofs.YtngiionckbmkmaaW.PrintMore
/-- The one pure statement of laws_FnExactLiftWord. -/
def laws_FnExactLiftWord.Pure : Prop := ∀ (a0_0 : Int) (a0_1 : Int) (l1 : List Int), ((Lit.int .i64 a0_0).wf = true) → ((Lit.int .i64 a0_1).wf = true) → (l1.length ≤ maxLen) → (∀ x ∈ l1, (Lit.int .i64 x).wf = true) → ∃ k, laws_FnExactLiftWord.f k a0_0 a0_1 l1 = some true
end Go.Proofs.Ytngiionckbmkmaa.P
end
section
namespace Go.Proofs.Ytngiionckbmkmaa.Pure
theorem FnExactLiftWord : P.laws_FnExactLiftWord.Pure := fun a0_0 a0_1 l1 _ _ _ _ => P.IsLim.some_ (P.laws_FnExactLiftWord.lim a0_0 a0_1 l1) (P.LiftWord_law a0_0 a0_1 l1)
end Go.Proofs.Ytngiionckbmkmaa.Pure
end
